/- PROVED: the pure statement of FnTurnPut: what is put turns with the grid. No condition. -/
import Derived.RowKit
import Derived.Laws.BitsAllLaws
import Derived.Test.YtbnofnamkgfadaaPx3
import Derived.Test.YtbnofnamkgfadaaPx0
import Derived.Test.YtbnofnamkgfadaaPx2
import Derived.Test.YtbnofnamkgfadaaPx9
import Derived.Test.YtbnofnamkgfadaaPx4
import Derived.Test.YtbnofnamkgfadaaPx8
import Derived.Test.YtbnofnamkgfadaaPx5
import Derived.Test.YtbnofnamkgfadaaPx16
import Derived.Test.YtbnofnamkgfadaaPx17
import Derived.Test.YtbnofnamkgfadaaPx20
import Derived.Test.YtbnofnamkgfadaaPx7
import Derived.Test.YtbnofnamkgfadaaH1Cell
import Derived.Test.YtbnofnamkgfadaaPx21
import Derived.Test.YtbnofnamkgfadaaPx37
import Derived.Test.YtbnofnamkgfadaaPx43
import Derived.Test.YtbnofnamkgfadaaH2Moved
import Derived.Test.YtbnofnamkgfadaaH1Swap
import Derived.Test.YtbnofnamkgfadaaH1CellP
import Derived.Test.YtbnofnamkgfadaaH1Sign
import Derived.Test.YtbnofnamkgfadaaH3Flip
import Derived.Test.YtbnofnamkgfadaaH3Turn
import Derived.Test.YtbnofnamkgfadaaPx45
import Derived.Test.YtbnofnamkgfadaaPx34
import Derived.Test.YtbnofnamkgfadaaPx33
import Derived.Test.YtbnofnamkgfadaaPx42
import Derived.Test.YtbnofnamkgfadaaPx41
import Derived.Test.YtbnofnamkgfadaaH1Clone
import Derived.Test.YtbnofnamkgfadaaPx50
namespace Go.Proofs.Ytbnofnamkgfadaa.P
open Go.RowKit
set_option linter.unusedVariables false
set_option linter.unusedSimpArgs false
theorem w64 (x : Int) (h0 : -9223372036854775808 ≤ x) (h1 : x ≤ 9223372036854775807) : wrap64 x = x := by
  unfold wrap64
  omega
theorem tmod_in (x n : Int) (h0 : 0 ≤ x) (h1 : 1 ≤ n) : 0 ≤ Int.tmod x n ∧ Int.tmod x n < n := by
  rw [Int.tmod_eq_emod_of_nonneg h0]
  exact ⟨Int.emod_nonneg x (by omega), Int.emod_lt_of_pos x (by omega)⟩
end Go.Proofs.Ytbnofnamkgfadaa.P
namespace Go.Proofs.Ytbnofnamkgfadaa.P
open Go.RowKit Go.Proofs.YtbnofnamkgfadaaW.PrintWords Go.Proofs.YtbnofnamkgfadaaW.PrintLast Go.Proofs.YtbnofnamkgfadaaW.PrintMore
set_option linter.unusedVariables false
set_option linter.unusedSimpArgs false

theorem xor_i64 (a b : Int) (h0 : 0 ≤ a) (h1 : a < 4611686018427387904) (h2 : 0 ≤ b) (h3 : b < 4611686018427387904) :
    0 ≤ Go.bits .xor .i64 a b ∧ Go.bits .xor .i64 a b < 4611686018427387904 := by
  obtain ⟨a, rfl⟩ := Int.eq_ofNat_of_zero_le h0
  obtain ⟨b, rfl⟩ := Int.eq_ofNat_of_zero_le h2
  have hx : a ^^^ b < 2 ^ 62 := Nat.xor_lt_two_pow (by omega) (by omega)
  have e1 : (BitVec.ofInt 64 (a : Int)).toNat = a := by
    rw [BitVec.ofInt_natCast, BitVec.toNat_ofNat]
    exact Nat.mod_eq_of_lt (by omega)
  have e2 : (BitVec.ofInt 64 (b : Int)).toNat = b := by
    rw [BitVec.ofInt_natCast, BitVec.toNat_ofNat]
    exact Nat.mod_eq_of_lt (by omega)
  have e : Go.bits .xor .i64 (a : Int) (b : Int) = ((a ^^^ b : Nat) : Int) := by
    show IntKind.i64.wrap ((BitVec.ofInt 64 (a : Int) ^^^ BitVec.ofInt 64 (b : Int)).toNat : Int) = _
    rw [BitVec.toNat_xor, e1, e2, IntKind.wrap_i64]
    omega
  rw [e]
  omega
/-- A code's bytes. -/
def Bytes (s : List Int) : Prop := ∀ x ∈ s, 0 ≤ x ∧ x ≤ 255
theorem Bytes.at_ {s : List Int} (h : Bytes s) (i : Int) : 0 ≤ rd s i ∧ rd s i ≤ 255 := by
  unfold rd
  rw [List.getD_eq_getElem?_getD]
  cases hh : s[i.toNat]? with
  | none => simp
  | some x => exact h x (List.mem_of_getElem? hh)
theorem Bytes.take {s : List Int} (h : Bytes s) (n : Nat) : Bytes (s.take n) := fun x hx => h x (List.mem_of_mem_take hx)
theorem bytes_of {l : List Int} (h : ∀ x ∈ l, (Lit.int .u8 x).wf = true) : Bytes l := by
  intro x hx
  have := h x hx
  simp [Lit.wf, IntKind.min, IntKind.max, IntKind.bits, IntKind.signed] at this
  omega
theorem pick_some (s : List Int) (hs : Bytes s) (p n : Int) (hp : 0 ≤ p) (hp1 : p ≤ 1000000000) (k : Nat) :
    ∃ v, spec_l6Rd_pick.f (k + 1) s p n = some (v, p + 1) ∧ 0 ≤ v ∧ (1 ≤ n → v < n) := by
  unfold spec_l6Rd_pick.f
  rw [w64 (p + 1) (by omega) (by omega)]
  by_cases hn : n < 1
  · rw [if_pos hn]
    exact ⟨0, by simp [spec_l6Rd_pick.j0], by omega, fun h => by omega⟩
  · rw [if_neg hn]
    by_cases hl : (s.length : Int) = 0
    · refine ⟨0, ?_, by omega, fun h => by omega⟩
      have e : ((s.length : Int) == 0) = true := by simpa using hl
      rw [e]
      simp [spec_l6Rd_pick.j0]
    · have e : ((s.length : Int) == 0) = false := by simpa using hl
      rw [e]
      simp only [spec_l6Rd_pick.j0]
      rw [if_neg (show ¬ (false = true) by decide)]
      have ep : p + 1 - 1 = p := by omega
      rw [ep, w64 p (by omega) (by omega)]
      by_cases hi : p < (s.length : Int)
      · rw [if_pos hi, if_pos hp, if_neg (show ¬ n = 0 by omega)]
        have hb := hs.at_ p
        rw [w64 (rd s p) (by omega) (by omega)]
        have := tmod_in (rd s p) n hb.1 (by omega)
        exact ⟨_, rfl, this.1, fun _ => this.2⟩
      · rw [if_neg hi, if_neg hl]
        have hlp : 1 ≤ (s.length : Int) := by omega
        have m1 := tmod_in p (s.length : Int) hp hlp
        rw [if_pos m1.1, if_pos m1.2]
        rw [w64 (p * 7) (by omega) (by omega), w64 (p * 7 + 3) (by omega) (by omega)]
        have m2 := tmod_in (p * 7 + 3) (s.length : Int) (by omega) hlp
        rw [if_pos m2.1, if_pos m2.2, if_neg (show ¬ n = 0 by omega)]
        have b1 := hs.at_ (Int.tmod p (s.length : Int))
        have b2 := hs.at_ (Int.tmod (p * 7 + 3) (s.length : Int))
        generalize rd s (Int.tmod p (s.length : Int)) = x1 at *
        generalize rd s (Int.tmod (p * 7 + 3) (s.length : Int)) = x2 at *
        have d1 : 0 ≤ Int.tdiv p (s.length : Int) ∧ Int.tdiv p (s.length : Int) ≤ p := by
          rw [Int.tdiv_eq_ediv_of_nonneg hp]
          exact ⟨Int.ediv_nonneg hp (by omega), Int.ediv_le_self _ hp⟩
        generalize Int.tdiv p (s.length : Int) = x3 at *
        rw [w64 x1 (by omega) (by omega), w64 x2 (by omega) (by omega), w64 x3 (by omega) (by omega), w64 (x1 * 131) (by omega) (by omega), w64 (x2 * 1117) (by omega) (by omega),
          w64 (p * 29) (by omega) (by omega), w64 (x3 * 53) (by omega) (by omega), w64 (x1 * 131 + x2 * 1117) (by omega) (by omega), w64 (x1 * 131 + x2 * 1117 + p * 29) (by omega) (by omega),
          w64 (x1 * 131 + x2 * 1117 + p * 29 + x3 * 53) (by omega) (by omega)]
        have hX : 0 ≤ x1 * 131 + x2 * 1117 + p * 29 + x3 * 53 ∧ x1 * 131 + x2 * 1117 + p * 29 + x3 * 53 < 4611686018427387904 := by omega
        generalize x1 * 131 + x2 * 1117 + p * 29 + x3 * 53 = X at *
        have d2 : 0 ≤ Int.tdiv X 64 ∧ Int.tdiv X 64 ≤ X := by
          rw [Int.tdiv_eq_ediv_of_nonneg hX.1]
          exact ⟨Int.ediv_nonneg hX.1 (by omega), Int.ediv_le_self _ hX.1⟩
        rw [w64 (Int.tdiv X 64) (by omega) (by omega)]
        have hY := xor_i64 X (Int.tdiv X 64) hX.1 hX.2 d2.1 (by omega)
        have := tmod_in _ n hY.1 (by omega)
        exact ⟨_, rfl, this.1, fun _ => this.2⟩
theorem l6Open_some (s : List Int) (hs : Bytes s) : ∃ s', spec_l6Open.f s = some (s', 0) ∧ Bytes s' := by
  unfold spec_l6Open.f
  by_cases h : (s.length : Int) > 2000
  · rw [if_pos h, if_pos (by omega)]
    exact ⟨_, rfl, hs.take 2000⟩
  · rw [if_neg h]
    exact ⟨s, rfl, hs⟩
end Go.Proofs.Ytbnofnamkgfadaa.P
namespace Go.Proofs.Ytbnofnamkgfadaa.P
open Go.RowKit Go.Proofs.YtbnofnamkgfadaaW.PrintWords Go.Proofs.YtbnofnamkgfadaaW.PrintLast Go.Proofs.YtbnofnamkgfadaaW.PrintMore
set_option linter.unusedVariables false
set_option linter.unusedSimpArgs false

def Small (x : Int) : Prop := -2 ≤ x ∧ x ≤ 100
theorem pick_at (s : List Int) (hs : Bytes s) (p n : Int) (hp : 0 ≤ p) (hp1 : p ≤ 1000000000) (k : Nat) (hk : 0 < k) :
    ∃ v, spec_l6Rd_pick.f k s p n = some (v, p + 1) ∧ 0 ≤ v ∧ (1 ≤ n → v < n) := by
  obtain ⟨k, rfl⟩ : ∃ m, k = m + 1 := ⟨k - 1, by omega⟩
  exact pick_some s hs p n hp hp1 k
theorem off_some (s : List Int) (hs : Bytes s) (p : Int) (hp : 0 ≤ p) (hp1 : p ≤ 1000000000) (k : Nat) (hk : 0 < k) :
    ∃ c d, spec_l71Off.f k s p = some (c, d, p + 1) ∧ Small c ∧ Small d := by
  unfold spec_l71Off.f
  obtain ⟨v, e, h0, h1⟩ := pick_at s hs p 6 hp hp1 k hk
  have h1 := h1 (by omega)
  simp only [Option.bind_some, e]
  rw [if_pos h0, if_pos (by simp; omega)]
  refine ⟨_, _, rfl, ?_⟩
  have : v = 0 ∨ v = 1 ∨ v = 2 ∨ v = 3 ∨ v = 4 ∨ v = 5 := by omega
  rcases this with rfl | rfl | rfl | rfl | rfl | rfl <;> (constructor <;> (unfold Small; decide))
theorem cellDraw_some (s : List Int) (hs : Bytes s) (p : Int) (hp : 0 ≤ p) (hp1 : p ≤ 900000000) (k : Nat) (hk : 2 < k) :
    ∃ c d p', spec_l71Cell.f k s p = some (c, d, p') ∧ p ≤ p' ∧ p' ≤ p + 2 ∧ Small c ∧ Small d := by
  obtain ⟨k, rfl⟩ : ∃ m, k = m + 2 := ⟨k - 2, by omega⟩
  unfold spec_l71Cell.f
  obtain ⟨v, e, h0, h1⟩ := pick_at s hs p 12 hp (by omega) (k + 2) (by omega)
  have h1 := h1 (by omega)
  rw [e]
  obtain ⟨u, e, g0, g1⟩ := pick_at s hs (p + 1) 9 (by omega) (by omega) k (by omega)
  have g1 := g1 (by omega)
  have ew : wrap64 (1 + u) = 1 + u := w64 _ (by omega) (by omega)
  have A1 : ∀ b, ∃ c d p', spec_l71Cell.j1 (k + 1) v b s (p + 1) = some (c, d, p') ∧ p ≤ p' ∧ p' ≤ p + 2 ∧ Small c ∧ Small d := by
    intro b
    simp only [spec_l71Cell.j1, e, Option.bind_some, ew]
    repeat' split
    all_goals exact ⟨_, _, _, rfl, by omega, by omega, by unfold Small; omega, by unfold Small; omega⟩
  have A0 : ∀ b, ∃ c d p', spec_l71Cell.j0 (k + 2) v b s (p + 1) = some (c, d, p') ∧ p ≤ p' ∧ p' ≤ p + 2 ∧ Small c ∧ Small d := by
    intro b
    simp only [spec_l71Cell.j0]
    split
    · exact ⟨_, _, _, rfl, by omega, by omega, by unfold Small; omega, by unfold Small; omega⟩
    · split
      · exact A1 _
      · exact A1 _
  simp only [Option.bind_some]
  split
  · exact ⟨_, _, _, rfl, by omega, by omega, by unfold Small; omega, by unfold Small; omega⟩
  · split
    · exact A0 _
    · exact A0 _
theorem gridDraw_l0 (s : List Int) (hs : Bytes s) (n : Int) : ∀ (m k : Nat) (p : Int) (acc : List S24), 0 ≤ p → p + 2 * (m : Int) ≤ 900000000 → m + 3 < k → acc.length + m < 1000000 →
    ∃ l p', spec_l71Grid.l0 k (m : Int) s p n acc = some (n, l, p') ∧ l.length = acc.length + m ∧ p ≤ p' ∧ p' ≤ p + 2 * (m : Int)
  | 0, k, p, acc, hp, hq, hk, ha => by
    obtain ⟨k, rfl⟩ : ∃ m, k = m + 1 := ⟨k - 1, by omega⟩
    simp only [spec_l71Grid.l0]
    rw [if_neg (by omega)]
    exact ⟨_, _, rfl, by omega, by omega, by omega⟩
  | m + 1, k, p, acc, hp, hq, hk, ha => by
    obtain ⟨k, rfl⟩ : ∃ m, k = m + 1 := ⟨k - 1, by omega⟩
    simp only [spec_l71Grid.l0]
    rw [if_pos (by omega)]
    obtain ⟨c, d, p', e, h1, h2, _, _⟩ := cellDraw_some s hs p hp (by omega) k (by omega)
    rw [e]
    simp only [Option.bind_some]
    rw [if_pos (by omega), w64 _ (by omega) (by omega), show ((m + 1 : Nat) : Int) - 1 = (m : Int) from by omega]
    obtain ⟨l, q, e, g1, g2, g3⟩ := gridDraw_l0 s hs n m k p' (acc ++ [⟨c, d⟩]) (by omega) (by omega) (by omega) (by simp; omega)
    rw [e]
    exact ⟨l, q, rfl, by simp at g1; omega, by omega, by omega⟩
theorem gridDraw_some (s : List Int) (hs : Bytes s) (p : Int) (hp : 0 ≤ p) (hp1 : p ≤ 800000000) (k : Nat) (hk : 40 < k) :
    ∃ n l p', spec_l71Grid.f k s p = some (n, l, p') ∧ 1 ≤ n ∧ n ≤ 5 ∧ 1 ≤ l.length ∧ l.length ≤ 25 ∧ p ≤ p' ∧ p' ≤ p + 52 := by
  unfold spec_l71Grid.f
  obtain ⟨v, e, h0, h1⟩ := pick_at s hs p 5 hp (by omega) k (by omega)
  have h1 := h1 (by omega)
  rw [e]
  obtain ⟨u, e, g0, g1⟩ := pick_at s hs (p + 1) 5 (by omega) (by omega) k (by omega)
  have g1 := g1 (by omega)
  simp only [Option.bind_some, e]
  rw [w64 (1 + v) (by omega) (by omega), w64 (1 + u) (by omega) (by omega)]
  have hm : 1 ≤ (1 + v) * (1 + u) ∧ (1 + v) * (1 + u) ≤ 25 := by
    have : v = 0 ∨ v = 1 ∨ v = 2 ∨ v = 3 ∨ v = 4 := by omega
    rcases this with rfl | rfl | rfl | rfl | rfl <;> omega
  rw [w64 _ (by omega) (by omega)]
  generalize (1 + v) * (1 + u) = M at hm
  obtain ⟨m, rfl⟩ := Int.eq_ofNat_of_zero_le (show 0 ≤ M by omega)
  obtain ⟨l, q, e, f1, f2, f3⟩ := gridDraw_l0 s hs (1 + v) m k (p + 1 + 1) [] (by omega) (by omega) (by omega) (by simp; omega)
  rw [e]
  exact ⟨_, _, _, rfl, by omega, by omega, by simp at f1; omega, by simp at f1; omega, by omega, by omega⟩
theorem someDraw_l0 (s : List Int) (n : Int) (h1 : 1 ≤ n) (h5 : n ≤ 5) (p : Int) : ∀ (m k : Nat) (acc : List S24), (acc.length : Int) + (m : Int) = n * 5 + 1 → m < k →
    ∃ l, spec_l71Some.l0 k s p n acc = some (n, l, p) ∧ l.length ≤ 26
  | 0, k, acc, ha, hk => by
    obtain ⟨k, rfl⟩ : ∃ m, k = m + 1 := ⟨k - 1, by omega⟩
    simp only [spec_l71Some.l0]
    rw [w64 (n * 5) (by omega) (by omega), if_neg (by omega)]
    exact ⟨_, rfl, by omega⟩
  | m + 1, k, acc, ha, hk => by
    obtain ⟨k, rfl⟩ : ∃ m, k = m + 1 := ⟨k - 1, by omega⟩
    simp only [spec_l71Some.l0]
    rw [w64 (n * 5) (by omega) (by omega), if_pos (by omega), if_pos (by omega)]
    exact someDraw_l0 s n h1 h5 p m k (acc ++ [⟨0, 0⟩]) (by simp; omega) (by omega)
theorem someDraw_j (s : List Int) (n : Int) (h1 : 1 ≤ n) (h5 : n ≤ 5) (p : Int) (k : Nat) (hk : 40 < k) (acc : List S24) (ha : acc.length ≤ 25) :
    ∃ l, spec_l71Some.l0 k s p n acc = some (n, l, p) ∧ l.length ≤ 26 := by
  by_cases h : (acc.length : Int) ≤ n * 5 + 1
  · obtain ⟨m, hm⟩ := Int.eq_ofNat_of_zero_le (show 0 ≤ n * 5 + 1 - (acc.length : Int) by omega)
    exact someDraw_l0 s n h1 h5 p m k acc (by omega) (by omega)
  · obtain ⟨k, rfl⟩ : ∃ m, k = m + 1 := ⟨k - 1, by omega⟩
    simp only [spec_l71Some.l0]
    rw [w64 (n * 5) (by omega) (by omega), if_neg (by omega)]
    exact ⟨_, rfl, by omega⟩
theorem someDraw_some (s : List Int) (hs : Bytes s) (p : Int) (hp : 0 ≤ p) (hp1 : p ≤ 700000000) (k : Nat) (hk : 50 < k) :
    ∃ n l p', spec_l71Some.f k s p = some (n, l, p') ∧ -1 ≤ n ∧ n ≤ 6 ∧ l.length ≤ 26 ∧ p ≤ p' ∧ p' ≤ p + 60 := by
  unfold spec_l71Some.f
  obtain ⟨n, l, q, e, a1, a2, a3, a4, a5, a6⟩ := gridDraw_some s hs p hp (by omega) k (by omega)
  rw [e]
  simp only [Option.bind_some]
  obtain ⟨v, e, h0, h1⟩ := pick_at s hs q 24 (by omega) (by omega) k (by omega)
  have h1 := h1 (by omega)
  rw [e]
  simp only [Option.bind_some]
  split
  · exact ⟨_, _, _, rfl, by omega, by omega, by omega, by omega, by omega⟩
  · obtain ⟨u, e, g0, g1⟩ := pick_at s hs (q + 1) 5 (by omega) (by omega) k (by omega)
    rw [e]
    simp only [Option.bind_some]
    split
    · obtain ⟨x, e, b0, b1⟩ := pick_at s hs (q + 1 + 1) 3 (by omega) (by omega) k (by omega)
      have b1 := b1 (by omega)
      rw [e]
      simp only [Option.bind_some]
      rw [if_pos b0, if_pos (by simp; omega)]
      have : x = 0 ∨ x = 1 ∨ x = 2 := by omega
      rcases this with rfl | rfl | rfl
      · exact ⟨_, _, _, rfl, by decide, by decide, by omega, by omega, by omega⟩
      · exact ⟨_, _, _, rfl, by decide, by decide, by omega, by omega, by omega⟩
      · exact ⟨_, _, _, rfl, by decide, by decide, by omega, by omega, by omega⟩
    · split
      · rw [if_pos (by omega)]
        exact ⟨_, _, _, rfl, by omega, by omega, by simp; omega, by omega, by omega⟩
      · split
        · obtain ⟨x, e, b0, b1⟩ := pick_at s hs (q + 1 + 1) (l.length : Int) (by omega) (by omega) k (by omega)
          have b1 := b1 (by omega)
          rw [e]
          simp only [Option.bind_some]
          obtain ⟨c, d, e, _, _⟩ := off_some s hs (q + 1 + 1 + 1) (by omega) (by omega) k (by omega)
          rw [e]
          simp only [Option.bind_some]
          rw [if_pos b0, if_pos b1]
          exact ⟨_, _, _, rfl, by omega, by omega, by simp; omega, by omega, by omega⟩
        · split
          · obtain ⟨l', e, hl⟩ := someDraw_j s n a1 a2 (q + 1 + 1) k (by omega) l (by omega)
            rw [e]
            exact ⟨_, _, _, rfl, by omega, by omega, by omega, by omega, by omega⟩
          · exact ⟨_, _, _, rfl, by omega, by omega, by simp, by omega, by omega⟩
end Go.Proofs.Ytbnofnamkgfadaa.P
namespace Go.Proofs.Ytbnofnamkgfadaa.P
open Go.RowKit Go.Proofs.YtbnofnamkgfadaaW.PrintWords Go.Proofs.YtbnofnamkgfadaaW.PrintLast Go.Proofs.YtbnofnamkgfadaaW.PrintMore
set_option linter.unusedVariables false
set_option linter.unusedSimpArgs false
theorem placeDraw_some (s : List Int) (hs : Bytes s) (p : Int) (hp : 0 ≤ p) (hp1 : p ≤ 700000000) (n : Int) (l : List S24) (k : Nat) (hk : 3 < k) :
    ∃ a p', spec_l71Place.f k s p n l = some (a, p') ∧ p ≤ p' ∧ p' ≤ p + 2 := by
  obtain ⟨k, rfl⟩ : ∃ m, k = m + 1 := ⟨k - 1, by omega⟩
  unfold spec_l71Place.f
  have J : ∀ (b : Bool) (q : Int), 0 ≤ q → q ≤ 800000000 → ∃ a, spec_l71Place.j0 (k + 1) b s q n l = some (a, q + 1) := by
    intro b q hq hq1
    simp only [spec_l71Place.j0, Option.bind_some]
    obtain ⟨x, e, b0, b1⟩ := pick_at s hs q 3 (by omega) (by omega) k (by omega)
    have b1 := b1 (by omega)
    obtain ⟨y, e2, c0, c1⟩ := pick_at s hs q (l.length : Int) (by omega) (by omega) k (by omega)
    rw [e, e2]
    simp only [Option.bind_some]
    cases b
    · rw [if_neg (by decide)]
      exact ⟨_, rfl⟩
    · rw [if_pos rfl, if_pos b0, if_pos (by simp; omega)]
      exact ⟨_, rfl⟩
  split
  · obtain ⟨a, e⟩ := J true p hp (by omega)
    exact ⟨_, _, e, by omega, by omega⟩
  · obtain ⟨x, e, b0, b1⟩ := pick_at s hs p 24 (by omega) (by omega) (k + 1) (by omega)
    rw [e]
    simp only [Option.bind_some]
    obtain ⟨a, e⟩ := J (x == 0) (p + 1) (by omega) (by omega)
    exact ⟨_, _, e, by omega, by omega⟩
end Go.Proofs.Ytbnofnamkgfadaa.P
namespace Go.Proofs.Ytbnofnamkgfadaa.P
open Go.RowKit Go.Proofs.YtbnofnamkgfadaaW.PrintWords Go.Proofs.YtbnofnamkgfadaaW.PrintLast Go.Proofs.YtbnofnamkgfadaaW.PrintMore
set_option linter.unusedVariables false
set_option linter.unusedSimpArgs false
theorem drawGridPut_some (s : List Int) (hs : Bytes s) (k : Nat) (hk : 60 < k) : ∃ n l a c d, spec_DrawGridPut.f k s = some (n, l, a, c, d) ∧ l.length ≤ 26 := by
  unfold spec_DrawGridPut.f
  obtain ⟨s, e, hs⟩ := l6Open_some s hs
  rw [e]
  simp only [Option.bind_some]
  obtain ⟨n, l, q, e, h1, h2, h3, h4, h5⟩ := someDraw_some s hs 0 (by omega) (by omega) k (by omega)
  rw [e]
  simp only [Option.bind_some]
  obtain ⟨c, d, r, e, h6, h7, _, _⟩ := cellDraw_some s hs q (by omega) (by omega) k (by omega)
  rw [e]
  simp only [Option.bind_some]
  obtain ⟨v, e, _, _⟩ := pick_at s hs r 16 (by omega) (by omega) k (by omega)
  rw [e]
  simp only [Option.bind_some]
  split
  · obtain ⟨c, d, e, _, _⟩ := off_some s hs (r + 1) (by omega) (by omega) k (by omega)
    rw [e]
    simp only [Option.bind_some]
    obtain ⟨a, r, e, h6, h7⟩ := placeDraw_some s hs (r + 1 + 1) (by omega) (by omega) n l k (by omega)
    rw [e]
    exact ⟨_, _, _, _, _, rfl, h3⟩
  · obtain ⟨a, r, e, h6, h7⟩ := placeDraw_some s hs (r + 1) (by omega) (by omega) n l k (by omega)
    rw [e]
    exact ⟨_, _, _, _, _, rfl, h3⟩
end Go.Proofs.Ytbnofnamkgfadaa.P
namespace Go.Proofs.Ytbnofnamkgfadaa.P
open Go.RowKit Go.Proofs.YtbnofnamkgfadaaW.PrintWords Go.Proofs.YtbnofnamkgfadaaW.PrintLast Go.Proofs.YtbnofnamkgfadaaW.PrintMore
set_option linter.unusedVariables false
set_option linter.unusedSimpArgs false
theorem spec_CellOk_some (a b : Int) : spec_CellOk.f a b = some (cellOkB a b) := by
  unfold spec_CellOk.f spec_l6In.f cellOkB
  by_cases h7 : a = 7
  · subst h7
    by_cases h1 : b ≥ 1
    · simp [h1]
    · simp [h1]
  · rw [if_neg h7, if_neg h7]
    by_cases h0 : a ≥ 0
    · by_cases h6 : a ≤ 6
      · simp [h0, h6]
        by_cases hb : b = 0 <;> simp [hb]
      · simp [h0, h6]
    · simp [h0]
end Go.Proofs.Ytbnofnamkgfadaa.P
namespace Go.Proofs.Ytbnofnamkgfadaa.P
open Go.RowKit Go.Proofs.YtbnofnamkgfadaaW.PrintWords Go.Proofs.YtbnofnamkgfadaaW.PrintLast Go.Proofs.YtbnofnamkgfadaaW.PrintMore
set_option linter.unusedVariables false
set_option linter.unusedSimpArgs false

theorem rd_at (l : List S24) (i : Nat) (h : i < l.length) : rd_T24 l (i : Int) = l[i] := by
  unfold rd_T24
  simp [List.getD_eq_getElem?_getD, List.getElem?_eq_getElem h]
/-- Is a grid valid? -/
def okCell (c : S24) : Bool := cellOkB c.f0 c.f1
def shapeB (n : Int) (m : Nat) : Bool := decide (1 ≤ n) && (decide (n ≤ 5) && (decide ((m : Int) % n = 0) && (decide (0 < m) && decide ((m : Int) ≤ n * 5))))
def gridOkB (n : Int) (l : List S24) : Bool := shapeB n l.length && l.all okCell
theorem spec_GridOk_l0 (l : List S24) (hl : l.length ≤ 1099511627776) (n : Int) : ∀ (d k i : Nat), i + d = l.length → d < k → spec_GridOk.l0 k (i : Int) n l = some ((l.drop i).all okCell)
  | 0, k, i, hi, hk => by
    obtain ⟨k, rfl⟩ : ∃ m, k = m + 1 := ⟨k - 1, by omega⟩
    simp only [spec_GridOk.l0]
    rw [if_neg (by omega), List.drop_eq_nil_of_le (by omega)]
    rfl
  | d + 1, k, i, hi, hk => by
    obtain ⟨k, rfl⟩ : ∃ m, k = m + 1 := ⟨k - 1, by omega⟩
    have hlt : i < l.length := by omega
    simp only [spec_GridOk.l0]
    rw [if_pos (by omega), if_pos (by omega), rd_at l i hlt, spec_CellOk_some]
    simp only [Option.bind_some]
    rw [List.drop_eq_getElem_cons hlt, List.all_cons, w64 _ (by omega) (by omega)]
    have ih := spec_GridOk_l0 l hl n d k (i + 1) (by omega) (by omega)
    rw [show ((i + 1 : Nat) : Int) = (i : Int) + 1 from by omega] at ih
    rw [ih]
    show (if okCell l[i] = true then _ else _) = _
    cases okCell l[i] <;> simp
theorem impl_GridOk_l0 (l : List S24) (hl : l.length ≤ 1099511627776) : ∀ (d k i : Nat), i + d = l.length → d < k → impl_GridOk.l0 k l (l.length : Int) (i : Int) = some ((l.drop i).all okCell)
  | 0, k, i, hi, hk => by
    obtain ⟨k, rfl⟩ : ∃ m, k = m + 1 := ⟨k - 1, by omega⟩
    simp only [impl_GridOk.l0]
    rw [if_neg (by omega), List.drop_eq_nil_of_le (by omega)]
    rfl
  | d + 1, k, i, hi, hk => by
    obtain ⟨k, rfl⟩ : ∃ m, k = m + 1 := ⟨k - 1, by omega⟩
    have hlt : i < l.length := by omega
    simp only [impl_GridOk.l0]
    rw [if_pos (by omega), if_pos (by omega), if_pos (by omega), rd_at l i hlt]
    simp only [impl_CellOk.f, Option.bind_some]
    rw [List.drop_eq_getElem_cons hlt, List.all_cons, w64 _ (by omega) (by omega)]
    have ih := impl_GridOk_l0 l hl d k (i + 1) (by omega) (by omega)
    rw [show ((i + 1 : Nat) : Int) = (i : Int) + 1 from by omega] at ih
    rw [ih]
    show (if okCell l[i] = true then _ else _) = _
    cases okCell l[i] <;> simp
theorem spec_GridOk_some (n : Int) (l : List S24) (hl : l.length ≤ 1099511627776) (k : Nat) (hk : l.length + 2 < k) : spec_GridOk.f k n l = some (gridOkB n l) := by
  obtain ⟨k, rfl⟩ : ∃ m, k = m + 1 := ⟨k - 1, by omega⟩
  unfold spec_GridOk.f gridOkB shapeB
  have hloop := spec_GridOk_l0 l hl n l.length k 0 (by omega) (by omega)
  simp only [List.drop_zero] at hloop
  rw [show ((0 : Nat) : Int) = 0 from rfl] at hloop
  have jt : ∀ b, spec_GridOk.j0 (k + 1) b n l = some (!b && l.all okCell) := by
    intro b
    simp only [spec_GridOk.j0]
    cases b
    · rw [if_neg (by decide), hloop]
      simp
    · simp
  by_cases h1 : 1 ≤ n
  · by_cases h5 : n ≤ 5
    · have e : spec_l6In.f n 1 5 = some true := by
        unfold spec_l6In.f
        rw [if_pos h1]
        simp [h5]
      rw [e]
      simp only [Option.bind_some, if_true, jt]
      rw [if_neg (by omega)]
      by_cases hm : (l.length : Int) % n = 0
      · rw [if_pos hm]
        have hq : 0 ≤ (l.length : Int) / n := Int.ediv_nonneg (by omega) (by omega)
        have hq2 : (l.length : Int) / n ≤ l.length := Int.ediv_le_self _ (by omega)
        rw [w64 _ (by omega) (by omega)]
        have hmul : n * ((l.length : Int) / n) = l.length := by
          have := Int.mul_ediv_add_emod (l.length : Int) n
          omega
        have ep : (1 ≤ (l.length : Int) / n) ↔ 0 < l.length := by
          constructor
          · intro h
            have : 0 < n * ((l.length : Int) / n) := Int.mul_pos (by omega) (by omega)
            omega
          · intro h
            rcases Int.lt_or_le ((l.length : Int) / n) 1 with h' | h'
            · have : (l.length : Int) / n = 0 := by omega
              rw [this] at hmul
              omega
            · exact h'
        have eq : ((l.length : Int) / n ≤ 5) ↔ (l.length : Int) ≤ n * 5 := by
          constructor
          · intro h
            have := Int.mul_le_mul_of_nonneg_left h (show 0 ≤ n by omega)
            omega
          · intro h
            rcases Int.lt_or_le 5 ((l.length : Int) / n) with h' | h'
            · have := Int.mul_le_mul_of_nonneg_left (show 6 ≤ (l.length : Int) / n by omega) (show 0 ≤ n by omega)
              omega
            · exact h'
        unfold spec_l6In.f
        by_cases p : 0 < l.length
        · rw [if_pos (ep.2 p)]
          by_cases q : (l.length : Int) ≤ n * 5
          · simp [h1, h5, hm, p, q, eq.2 q]
          · simp [h1, h5, hm, p, q, show ¬ ((l.length : Int) / n ≤ 5) from fun h => q (eq.1 h)]
        · rw [if_neg (fun h => p (ep.1 h))]
          simp [p]
      · rw [if_neg hm]
        simp [hm]
    · have e : spec_l6In.f n 1 5 = some false := by
        unfold spec_l6In.f
        rw [if_pos h1]
        simp [h5]
      rw [e]
      simp [jt, h5]
  · have e : spec_l6In.f n 1 5 = some false := by
      unfold spec_l6In.f
      rw [if_neg h1]
    rw [e]
    simp [jt, h1]
theorem impl_GridOk_some (n : Int) (l : List S24) (hl : l.length ≤ 1099511627776) (k : Nat) (hk : l.length + 3 < k) : impl_GridOk.f k n l = some (gridOkB n l) := by
  obtain ⟨k, rfl⟩ : ∃ m, k = m + 2 := ⟨k - 2, by omega⟩
  unfold impl_GridOk.f gridOkB shapeB
  have hloop := impl_GridOk_l0 l hl l.length k 0 (by omega) (by omega)
  simp only [List.drop_zero] at hloop
  rw [show ((0 : Nat) : Int) = 0 from rfl] at hloop
  have j1 : ∀ b, impl_GridOk.j1 (k + 1) b n l = some (!b && l.all okCell) := by
    intro b
    simp only [impl_GridOk.j1]
    cases b
    · rw [if_neg (by decide), hloop]
      simp
    · simp
  have jt : impl_GridOk.j0 (k + 2) true n l = some false := by simp [impl_GridOk.j0]
  by_cases h1 : n < 1
  · rw [if_pos h1, jt]
    simp [show ¬ (1 ≤ n) by omega]
  · rw [if_neg h1]
    by_cases h5 : n > 5
    · rw [decide_eq_true h5, jt]
      simp [show ¬ (n ≤ 5) by omega]
    · rw [decide_eq_false h5]
      simp only [impl_GridOk.j0]
      rw [if_neg (by decide), w64 (n * 5) (by omega) (by omega)]
      have g1 : 1 ≤ n := by omega
      have g5 : n ≤ 5 := by omega
      by_cases p : 0 < l.length
      · rw [if_neg (by omega)]
        by_cases q : (l.length : Int) ≤ n * 5
        · rw [if_neg (by omega), if_neg (by omega), j1]
          by_cases hm : (l.length : Int) % n = 0
          · simp [g1, g5, hm, p, q]
          · simp [hm]
        · rw [if_pos (by omega), j1]
          simp [q]
      · rw [if_pos (by omega), j1]
        simp [p]
end Go.Proofs.Ytbnofnamkgfadaa.P
namespace Go.Proofs.Ytbnofnamkgfadaa.P
open Go.RowKit Go.Proofs.YtbnofnamkgfadaaW.PrintWords Go.Proofs.YtbnofnamkgfadaaW.PrintLast Go.Proofs.YtbnofnamkgfadaaW.PrintMore
set_option linter.unusedVariables false
set_option linter.unusedSimpArgs false

theorem l6In_some (x lo hi : Int) : spec_l6In.f x lo hi = some (decide (lo ≤ x) && decide (x ≤ hi)) := by
  unfold spec_l6In.f
  by_cases h : x ≥ lo
  · rw [if_pos h]
    simp [h]
  · rw [if_neg h]
    simp [h]
/-- What a valid grid's shape is. -/
theorem shape_of {n : Int} {l : List S24} (h : gridOkB n l = true) : shapeB n l.length = true ∧ l.all okCell = true := by
  unfold gridOkB at h
  simpa using h
theorem shapeB_of {n : Int} {m : Nat} (h : shapeB n m = true) : 1 ≤ n ∧ n ≤ 5 ∧ (m : Int) % n = 0 ∧ 0 < m ∧ (m : Int) ≤ n * 5 := by
  unfold shapeB at h
  simp at h
  exact ⟨h.1, h.2.1, h.2.2.1, h.2.2.2.1, h.2.2.2.2⟩
/-- Its rows: from one to five. -/
theorem shapeB_rows {n : Int} {m : Nat} (h : shapeB n m = true) : 1 ≤ (m : Int) / n ∧ (m : Int) / n ≤ 5 ∧ n * ((m : Int) / n) = m := by
  obtain ⟨h1, h5, hm, h0, hl⟩ := shapeB_of h
  have hmul : n * ((m : Int) / n) = m := by
    have := Int.mul_ediv_add_emod (m : Int) n
    omega
  have hq : 0 ≤ (m : Int) / n := Int.ediv_nonneg (by omega) (by omega)
  refine ⟨?_, ?_, hmul⟩
  · rcases Int.lt_or_le ((m : Int) / n) 1 with h' | h'
    · have : (m : Int) / n = 0 := by omega
      rw [this] at hmul
      omega
    · exact h'
  · rcases Int.lt_or_le 5 ((m : Int) / n) with h' | h'
    · have := Int.mul_le_mul_of_nonneg_left (show 6 ≤ (m : Int) / n by omega) (show 0 ≤ n by omega)
      omega
    · exact h'
theorem impl_gridRows_some {n : Int} {l : List S24} (h : shapeB n l.length = true) : impl_gridRows.f n l = some ((l.length : Int) / n) := by
  have := shapeB_of h
  have := shapeB_rows h
  unfold impl_gridRows.f
  rw [if_neg (by omega), w64 _ (by omega) (by omega)]
end Go.Proofs.Ytbnofnamkgfadaa.P
namespace Go.Proofs.Ytbnofnamkgfadaa.P
open Go.RowKit Go.Proofs.YtbnofnamkgfadaaW.PrintWords Go.Proofs.YtbnofnamkgfadaaW.PrintLast Go.Proofs.YtbnofnamkgfadaaW.PrintMore
set_option linter.unusedVariables false
set_option linter.unusedSimpArgs false
/-- A shape by two numbers below five. -/
theorem shape_ij {n : Int} {m : Nat} (h : shapeB n m = true) : ∃ i j : Nat, i < 5 ∧ j < 5 ∧ n = ((i + 1 : Nat) : Int) ∧ m = (i + 1) * (j + 1) := by
  have h1 := shapeB_of h
  obtain ⟨h2, h3, h4⟩ := shapeB_rows h
  obtain ⟨i, hi⟩ := Int.eq_ofNat_of_zero_le (show 0 ≤ n - 1 by omega)
  obtain ⟨j, hj⟩ := Int.eq_ofNat_of_zero_le (show 0 ≤ (m : Int) / n - 1 by omega)
  have e1 : n = ((i + 1 : Nat) : Int) := by omega
  have e2 : (m : Int) / n = ((j + 1 : Nat) : Int) := by omega
  refine ⟨i, j, by omega, by omega, e1, ?_⟩
  rw [e2, e1] at h4
  have h5 : (((i + 1) * (j + 1) : Nat) : Int) = (m : Int) := by rw [← h4]; exact Int.natCast_mul _ _
  exact (Int.ofNat.inj h5).symm
end Go.Proofs.Ytbnofnamkgfadaa.P
namespace Go.Proofs.Ytbnofnamkgfadaa.P
open Go.RowKit Go.Proofs.YtbnofnamkgfadaaW.PrintWords Go.Proofs.YtbnofnamkgfadaaW.PrintLast Go.Proofs.YtbnofnamkgfadaaW.PrintMore
set_option linter.unusedVariables false
set_option linter.unusedSimpArgs false
/-- A cell with its mirror leaning the other way. -/
def swapC (c : S24) : S24 := ⟨swapK c.f0, c.f1⟩
/-- The cells at some places, exchanged. -/
def pickC (l : List S24) (P : List Nat) : List S24 := P.map fun (p : Nat) => swapC (rd_T24 l (p : Int))
/-- Where the cell at i of the moved grid comes from. -/
def fromAt (F : Int → Int → Option Int) (wide : Int) (i : Nat) : Nat := ((F (wrap64 (Int.tdiv (i : Int) wide)) (Int.tmod (i : Int) wide)).getD 0).toNat
def fromOk (F : Int → Int → Option Int) (wide : Int) (m : Nat) (i : Nat) : Bool := match F (wrap64 (Int.tdiv (i : Int) wide)) (Int.tmod (i : Int) wide) with
  | some x => decide (0 ≤ x) && decide (x < (m : Int))
  | none => false
theorem from_of {F : Int → Int → Option Int} {wide : Int} {m i : Nat} (h : fromOk F wide m i = true) : F (wrap64 (Int.tdiv (i : Int) wide)) (Int.tmod (i : Int) wide) = some (fromAt F wide i : Int) ∧ fromAt F wide i < m := by
  unfold fromOk at h
  unfold fromAt
  cases e : F (wrap64 (Int.tdiv (i : Int) wide)) (Int.tmod (i : Int) wide) with
  | none => rw [e] at h; cases h
  | some x =>
    rw [e] at h
    simp at h
    simp only [Option.getD_some]
    constructor
    · congr 1
      omega
    · omega
theorem moved_l0 (F : Int → Int → Option Int) (wide : Int) (hw : wide ≠ 0) (n : Int) (l : List S24) (hl : l.length ≤ 1000000) (hok : l.all okCell = true) (hF : ∀ i, i < l.length → fromOk F wide l.length i = true) :
    ∀ (d k i : Nat) (acc : List S24), i + d = l.length → d < k → acc.length = l.length →
      gridMovedF.l0 F k wide (l.length : Int) (i : Int) n l wide acc = some (wide, acc.take i ++ pickC l ((List.range' i d).map (fromAt F wide)))
  | 0, k, i, acc, hi, hk, ha => by
    obtain ⟨k, rfl⟩ : ∃ m, k = m + 1 := ⟨k - 1, by omega⟩
    simp only [gridMovedF.l0]
    rw [if_neg (by omega), List.take_of_length_le (by omega)]
    simp [pickC]
  | d + 1, k, i, acc, hi, hk, ha => by
    obtain ⟨k, rfl⟩ : ∃ m, k = m + 1 := ⟨k - 1, by omega⟩
    have hlt : i < l.length := by omega
    obtain ⟨e, hb⟩ := from_of (hF i hlt)
    have hcell : okCell l[fromAt F wide i] = true := List.all_eq_true.1 hok _ (List.getElem_mem hb)
    have hc2 : cellOkB l[fromAt F wide i].f0 l[fromAt F wide i].f1 = true := hcell
    simp only [gridMovedF.l0]
    rw [if_pos (by omega), if_neg hw, e]
    simp only [Option.bind_some]
    rw [if_pos (by omega), if_pos (by omega), rd_at l _ hb]
    simp only [cellTypedP.f, Option.bind_some, hc2, if_true, cellSwappedP.f]
    rw [if_pos (by omega), if_pos (by omega), w64 _ (by omega) (by omega)]
    have ih := moved_l0 F wide hw n l hl hok hF d k (i + 1) (acc.set i (swapC l[fromAt F wide i])) (by omega) (by omega) (by simpa using ha)
    rw [show ((i + 1 : Nat) : Int) = (i : Int) + 1 from by omega] at ih
    simp only [Int.toNat_natCast]
    refine Eq.trans ih ?_
    rw [List.take_succ_eq_append_getElem (by simpa using (show i < acc.length by omega))]
    simp [List.take_set_of_le, List.range'_succ, pickC, rd_at l _ hb]
theorem moved_some (F : Int → Int → Option Int) (wide : Int) (hw : wide ≠ 0) (n : Int) (l : List S24) (hl : l.length ≤ 1000000) (hok : l.all okCell = true) (hF : ∀ i, i < l.length → fromOk F wide l.length i = true) (k : Nat) (hk : l.length < k) :
    gridMovedF.f F k n l wide = some (wide, pickC l ((List.range l.length).map (fromAt F wide))) := by
  unfold gridMovedF.f
  rw [if_pos (by omega), if_pos (by omega)]
  simp only [Option.bind_some, Int.toNat_natCast, List.length_replicate]
  have h := moved_l0 F wide hw n l hl hok hF l.length k 0 (List.replicate l.length z24) (by omega) hk (by simp)
  rw [show ((0 : Nat) : Int) = 0 from rfl] at h
  rw [h, List.range_eq_range']
  simp
end Go.Proofs.Ytbnofnamkgfadaa.P
namespace Go.Proofs.Ytbnofnamkgfadaa.P
open Go.RowKit Go.Proofs.YtbnofnamkgfadaaW.PrintWords Go.Proofs.YtbnofnamkgfadaaW.PrintLast Go.Proofs.YtbnofnamkgfadaaW.PrintMore
set_option linter.unusedVariables false
set_option linter.unusedSimpArgs false
/-- The places of a row, from its end. -/
def rowP (w row : Nat) : Nat → List Nat
  | 0 => []
  | c + 1 => (row * w + c) :: rowP w row c
/-- The places of the grid in the mirror, from a row on. -/
def flipP (w : Nat) : Nat → Nat → List Nat
  | _, 0 => []
  | row, r + 1 => rowP w row w ++ flipP w (row + 1) r
/-- The places of a column, from its end. -/
def colP (w col : Nat) : Nat → List Nat
  | 0 => []
  | r + 1 => (r * w + col) :: colP w col r
/-- The places of the turned grid, from a column on. -/
def turnP (w h : Nat) : Nat → Nat → List Nat
  | _, 0 => []
  | col, c + 1 => colP w col h ++ turnP w h (col + 1) c
/-- What GridFlip tells. -/
def gridFlip (n : Int) (l : List S24) : Int × List S24 :=
  if gridOkB n l = true then (n, pickC l (flipP n.toNat 0 ((l.length : Int) / n).toNat)) else (0, [])
theorem flip_from (i j : Nat) (hi : i < 5) (hj : j < 5) : (List.range ((i + 1) * (j + 1))).map (fromAt (flipF ((i + 1 : Nat) : Int)) ((i + 1 : Nat) : Int)) = flipP (i + 1) 0 (j + 1) := by
  revert hj; revert j; revert hi; revert i
  decide +kernel
theorem flip_ok (i j : Nat) (hi : i < 5) (hj : j < 5) : ∀ x, x < (i + 1) * (j + 1) → fromOk (flipF ((i + 1 : Nat) : Int)) ((i + 1 : Nat) : Int) ((i + 1) * (j + 1)) x = true := by
  revert hj; revert j; revert hi; revert i
  decide +kernel
theorem impl_GridFlip_some (n : Int) (l : List S24) (hl : l.length ≤ 1099511627776) : impl_GridFlip.f n l = some (gridFlip n l) := by
  unfold impl_GridFlip.f gridFlip
  rw [impl_GridOk_some n l hl _ (by omega)]
  simp only [Option.bind_some]
  by_cases h : gridOkB n l = true
  · rw [if_pos h, if_pos h]
    obtain ⟨i, j, hi, hj, hn, hm⟩ := shape_ij (shape_of h).1
    have hp2 : (i + 1) * (j + 1) ≤ 25 := by
      have := Nat.mul_le_mul (show i + 1 ≤ 5 by omega) (show j + 1 ≤ 5 by omega)
      omega
    have e : (l.length : Int) / n = ((j + 1 : Nat) : Int) := by
      rw [hm, hn, Int.natCast_mul]
      exact Int.mul_ediv_cancel_left _ (by omega)
    have ho := flip_ok i j hi hj
    rw [← hm, ← hn] at ho
    rw [moved_some (flipF n) n (by omega) n l (by omega) (shape_of h).2 ho _ (by omega), e, Int.toNat_natCast]
    have hf := flip_from i j hi hj
    rw [← hm, ← hn] at hf
    rw [hf, hn, Int.toNat_natCast]
  · rw [if_neg h, if_neg h]
/-- What GridTurn tells. -/
def gridTurn (n : Int) (l : List S24) : Int × List S24 :=
  if gridOkB n l = true then ((l.length : Int) / n, pickC l (turnP n.toNat ((l.length : Int) / n).toNat 0 n.toNat)) else (0, [])
theorem turn_from (i j : Nat) (hi : i < 5) (hj : j < 5) : (List.range ((i + 1) * (j + 1))).map (fromAt (turnF ((i + 1 : Nat) : Int) ((j + 1 : Nat) : Int)) ((j + 1 : Nat) : Int)) = turnP (i + 1) (j + 1) 0 (i + 1) := by
  revert hj; revert j; revert hi; revert i
  decide +kernel
theorem turn_ok (i j : Nat) (hi : i < 5) (hj : j < 5) : ∀ x, x < (i + 1) * (j + 1) → fromOk (turnF ((i + 1 : Nat) : Int) ((j + 1 : Nat) : Int)) ((j + 1 : Nat) : Int) ((i + 1) * (j + 1)) x = true := by
  revert hj; revert j; revert hi; revert i
  decide +kernel
theorem impl_GridTurn_some (n : Int) (l : List S24) (hl : l.length ≤ 1099511627776) : impl_GridTurn.f n l = some (gridTurn n l) := by
  unfold impl_GridTurn.f gridTurn
  rw [impl_GridOk_some n l hl _ (by omega)]
  simp only [Option.bind_some]
  by_cases h : gridOkB n l = true
  · rw [if_pos h, if_pos h, impl_gridRows_some (shape_of h).1]
    simp only [Option.bind_some]
    obtain ⟨i, j, hi, hj, hn, hm⟩ := shape_ij (shape_of h).1
    have hp2 : (i + 1) * (j + 1) ≤ 25 := by
      have := Nat.mul_le_mul (show i + 1 ≤ 5 by omega) (show j + 1 ≤ 5 by omega)
      omega
    have e : (l.length : Int) / n = ((j + 1 : Nat) : Int) := by
      rw [hm, hn, Int.natCast_mul]
      exact Int.mul_ediv_cancel_left _ (by omega)
    have ho := turn_ok i j hi hj
    rw [← hm, ← hn] at ho
    rw [e, moved_some (turnF n ((j + 1 : Nat) : Int)) ((j + 1 : Nat) : Int) (by omega) n l (by omega) (shape_of h).2 ho _ (by omega), Int.toNat_natCast]
    have hf := turn_from i j hi hj
    rw [← hm, ← hn] at hf
    rw [hf, hn, Int.toNat_natCast]
  · rw [if_neg h, if_neg h]
end Go.Proofs.Ytbnofnamkgfadaa.P
namespace Go.Proofs.Ytbnofnamkgfadaa.P
open Go.RowKit Go.Proofs.YtbnofnamkgfadaaW.PrintWords Go.Proofs.YtbnofnamkgfadaaW.PrintLast Go.Proofs.YtbnofnamkgfadaaW.PrintMore
set_option linter.unusedVariables false
set_option linter.unusedSimpArgs false
theorem swapC_ok (c : S24) (h : okCell c = true) : okCell (swapC c) = true := by
  have h' : cellOkB c.f0 c.f1 = true := h
  show cellOkB (swapK c.f0) c.f1 = true
  rcases cellOkB_cases h' with ⟨h7, h1, h9⟩ | ⟨h0, hk⟩
  · rw [h7] at h' ⊢
    exact h'
  · rw [h0]
    rcases hk with e | e | e | e | e | e | e <;> (rw [e]; decide)
/-- The cells at some places, exchanged or not. -/
def movC (b : Bool) (l : List S24) (P : List Nat) : List S24 := P.map fun (p : Nat) => bif b then swapC (rd_T24 l (p : Int)) else rd_T24 l (p : Int)
theorem movC_length (b : Bool) (l : List S24) (P : List Nat) : (movC b l P).length = P.length := List.length_map ..
theorem movC_ok {b : Bool} {l : List S24} {P : List Nat} (h : l.all okCell = true) (hP : ∀ p ∈ P, p < l.length) : (movC b l P).all okCell = true := by
  rw [List.all_eq_true]
  intro x hx
  obtain ⟨p, hp, rfl⟩ := List.mem_map.1 hx
  have h1 : okCell (rd_T24 l (p : Int)) = true := by
    rw [rd_at l p (hP p hp)]
    exact List.all_eq_true.1 h _ (List.getElem_mem _)
  cases b
  · exact h1
  · exact swapC_ok _ h1
/-- A valid grid, its shape told. -/
def okG (i j : Nat) (l : List S24) : Prop := l.length = (i + 1) * (j + 1) ∧ l.all okCell = true
theorem okG_of {n : Int} {l : List S24} (h : gridOkB n l = true) : ∃ i j : Nat, i < 5 ∧ j < 5 ∧ n = ((i + 1 : Nat) : Int) ∧ okG i j l := by
  obtain ⟨i, j, hi, hj, hn, hm⟩ := shape_ij (shape_of h).1
  exact ⟨i, j, hi, hj, hn, hm, (shape_of h).2⟩
theorem shapeB_all (i j : Nat) (hi : i < 5) (hj : j < 5) : shapeB ((i + 1 : Nat) : Int) ((i + 1) * (j + 1)) = true := by
  revert hj; revert j; revert hi; revert i
  decide +kernel
theorem okG_grid {i j : Nat} (hi : i < 5) (hj : j < 5) {l : List S24} (h : okG i j l) : gridOkB ((i + 1 : Nat) : Int) l = true := by
  unfold gridOkB
  rw [h.1, shapeB_all i j hi hj, h.2]
  rfl
def TP (i j : Nat) : List Nat := turnP (i + 1) (j + 1) 0 (i + 1)
def FP (i j : Nat) : List Nat := flipP (i + 1) 0 (j + 1)
def below (P : List Nat) (m : Nat) : Bool := P.all fun p => decide (p < m)
theorem below_of {P : List Nat} {m : Nat} (h : below P m = true) : ∀ p ∈ P, p < m := by
  unfold below at h
  simpa using h
theorem TP_len (i j : Nat) (hi : i < 5) (hj : j < 5) : (TP i j).length = (j + 1) * (i + 1) := by
  revert hj; revert j; revert hi; revert i
  decide +kernel
theorem FP_len (i j : Nat) (hi : i < 5) (hj : j < 5) : (FP i j).length = (i + 1) * (j + 1) := by
  revert hj; revert j; revert hi; revert i
  decide +kernel
theorem TP_below (i j : Nat) (hi : i < 5) (hj : j < 5) : below (TP i j) ((i + 1) * (j + 1)) = true := by
  revert hj; revert j; revert hi; revert i
  decide +kernel
theorem FP_below (i j : Nat) (hi : i < 5) (hj : j < 5) : below (FP i j) ((i + 1) * (j + 1)) = true := by
  revert hj; revert j; revert hi; revert i
  decide +kernel
theorem div_j {i j : Nat} {l : List S24} (hm : l.length = (i + 1) * (j + 1)) : (l.length : Int) / ((i + 1 : Nat) : Int) = ((j + 1 : Nat) : Int) := by
  rw [hm, Int.natCast_mul]
  exact Int.mul_ediv_cancel_left _ (by omega)
theorem turn_ij {i j : Nat} (hi : i < 5) (hj : j < 5) {l : List S24} (h : okG i j l) : gridTurn ((i + 1 : Nat) : Int) l = (((j + 1 : Nat) : Int), movC true l (TP i j)) ∧ okG j i (movC true l (TP i j)) := by
  constructor
  · unfold gridTurn
    rw [if_pos (okG_grid hi hj h), div_j h.1, Int.toNat_natCast, Int.toNat_natCast]
    rfl
  · exact ⟨by rw [movC_length, TP_len i j hi hj], movC_ok h.2 (by rw [h.1]; exact below_of (TP_below i j hi hj))⟩
theorem flip_ij {i j : Nat} (hi : i < 5) (hj : j < 5) {l : List S24} (h : okG i j l) : gridFlip ((i + 1 : Nat) : Int) l = (((i + 1 : Nat) : Int), movC true l (FP i j)) ∧ okG i j (movC true l (FP i j)) := by
  constructor
  · unfold gridFlip
    rw [if_pos (okG_grid hi hj h), div_j h.1, Int.toNat_natCast, Int.toNat_natCast]
    rfl
  · exact ⟨by rw [movC_length, FP_len i j hi hj], movC_ok h.2 (by rw [h.1]; exact below_of (FP_below i j hi hj))⟩
theorem okG_25 {i j : Nat} (hi : i < 5) (hj : j < 5) {l : List S24} (h : okG i j l) : l.length ≤ 25 := by
  have := Nat.mul_le_mul (show i + 1 ≤ 5 by omega) (show j + 1 ≤ 5 by omega)
  rw [h.1]
  omega
end Go.Proofs.Ytbnofnamkgfadaa.P
namespace Go.Proofs.Ytbnofnamkgfadaa.P
open Go.RowKit Go.Proofs.YtbnofnamkgfadaaW.PrintWords Go.Proofs.YtbnofnamkgfadaaW.PrintLast Go.Proofs.YtbnofnamkgfadaaW.PrintMore
set_option linter.unusedVariables false
set_option linter.unusedSimpArgs false
theorem TP_at (i j : Nat) (hi : i < 5) (hj : j < 5) : ∀ at_, at_ < (i + 1) * (j + 1) → ∀ r, r < (j + 1) * (i + 1) → (decide ((TP i j).getD r 0 = at_) = decide (r = (at_ % (i + 1)) * (j + 1) + j - at_ / (i + 1))) := by
  revert hj; revert j; revert hi; revert i
  decide +kernel
theorem FP_at (i j : Nat) (hi : i < 5) (hj : j < 5) : ∀ at_, at_ < (i + 1) * (j + 1) → ∀ r, r < (i + 1) * (j + 1) → (decide ((FP i j).getD r 0 = at_) = decide (r = (at_ / (i + 1)) * (i + 1) + i - at_ % (i + 1))) := by
  revert hj; revert j; revert hi; revert i
  decide +kernel
theorem mov_set (l : List S24) (P : List Nat) (c : S24) (a b : Nat) (ha : a < l.length) (hP : ∀ p ∈ P, p < l.length) (h : ∀ r, r < P.length → decide (P.getD r 0 = a) = decide (r = b)) : movC true (l.set a c) P = (movC true l P).set b (swapC c) := by
  refine List.ext_getElem (by simp [movC]) ?_
  intro r h1 h2
  have hr : r < P.length := by simpa [movC] using h1
  have h3 := h r hr
  have h4 : P.getD r 0 = P[r] := by rw [List.getD_eq_getElem?_getD, List.getElem?_eq_getElem hr]; rfl
  have h5 : P[r] < l.length := hP _ (List.getElem_mem hr)
  rw [h4] at h3
  rw [List.getElem_set]
  simp only [movC, List.getElem_map, cond_true]
  rw [rd_at _ P[r] (by rw [List.length_set]; exact h5), rd_at l P[r] h5, List.getElem_set]
  by_cases e : P[r] = a
  · have : r = b := by simpa [e] using h3.symm
    rw [if_pos e.symm, if_pos this.symm]
  · have : ¬ r = b := by
      intro hb
      rw [decide_eq_false e, decide_eq_true hb] at h3
      cases h3
    rw [if_neg (fun x => e x.symm), if_neg (fun x => this x.symm)]
theorem mov_set_turn {i j : Nat} (hi : i < 5) (hj : j < 5) {l : List S24} (h : okG i j l) (c : S24) (a : Nat) (ha : a < l.length) : movC true (l.set a c) (TP i j) = (movC true l (TP i j)).set ((a % (i + 1)) * (j + 1) + j - a / (i + 1)) (swapC c) := by
  have hm := h.1
  refine mov_set l _ c a _ ha (by rw [hm]; exact below_of (TP_below i j hi hj)) ?_
  rw [TP_len i j hi hj]
  exact TP_at i j hi hj a (by omega)
theorem mov_set_flip {i j : Nat} (hi : i < 5) (hj : j < 5) {l : List S24} (h : okG i j l) (c : S24) (a : Nat) (ha : a < l.length) : movC true (l.set a c) (FP i j) = (movC true l (FP i j)).set ((a / (i + 1)) * (i + 1) + i - a % (i + 1)) (swapC c) := by
  have hm := h.1
  refine mov_set l _ c a _ ha (by rw [hm]; exact below_of (FP_below i j hi hj)) ?_
  rw [FP_len i j hi hj]
  exact FP_at i j hi hj a (by omega)
end Go.Proofs.Ytbnofnamkgfadaa.P
namespace Go.Proofs.Ytbnofnamkgfadaa.P
open Go.RowKit Go.Proofs.YtbnofnamkgfadaaW.PrintWords Go.Proofs.YtbnofnamkgfadaaW.PrintLast Go.Proofs.YtbnofnamkgfadaaW.PrintMore
set_option linter.unusedVariables false
set_option linter.unusedSimpArgs false
theorem cell_ext {a b : S24} (h0 : a.f0 = b.f0) (h1 : a.f1 = b.f1) : a = b := by
  cases a; cases b; simp_all
theorem llGrid_l0 (n n' : Int) (l l' : List S24) (hl : l.length ≤ 1099511627776) (he : l.length = l'.length) : ∀ (r k i : Nat), i + r = l.length → r < k →
    ∃ b, laws_llGrid.l0 k (i : Int) n l n' l' = some b ∧ (b = true ↔ l.drop i = l'.drop i)
  | 0, k, i, hi, hk => by
    obtain ⟨k, rfl⟩ : ∃ m, k = m + 1 := ⟨k - 1, by omega⟩
    simp only [laws_llGrid.l0]
    rw [if_neg (by omega)]
    exact ⟨true, rfl, by simp [List.drop_eq_nil_of_le (show l.length ≤ i by omega), List.drop_eq_nil_of_le (show l'.length ≤ i by omega)]⟩
  | r + 1, k, i, hi, hk => by
    obtain ⟨k, rfl⟩ : ∃ m, k = m + 1 := ⟨k - 1, by omega⟩
    have h1 : i < l.length := by omega
    have h2 : i < l'.length := by omega
    simp only [laws_llGrid.l0]
    rw [if_pos (by omega), if_pos (by omega), if_pos (by omega), rd_at l i h1, rd_at l' i h2, w64 _ (by omega) (by omega)]
    obtain ⟨b, e, hb⟩ := llGrid_l0 n n' l l' hl he r k (i + 1) (by omega) (by omega)
    rw [show ((i + 1 : Nat) : Int) = (i : Int) + 1 from by omega] at e
    by_cases h : l[i] = l'[i]
    · rw [h, if_neg (by simp), e]
      refine ⟨b, rfl, ?_⟩
      rw [List.drop_eq_getElem_cons h1, List.drop_eq_getElem_cons h2, List.cons.injEq, hb]
      exact ⟨fun x => ⟨h, x⟩, fun x => x.2⟩
    · rw [if_pos]
      · refine ⟨false, rfl, ?_⟩
        rw [List.drop_eq_getElem_cons h1, List.drop_eq_getElem_cons h2, List.cons.injEq]
        exact ⟨fun x => (by cases x), fun x => absurd x.1 h⟩
      · by_cases h0 : l[i].f0 = l'[i].f0
        · have h1 : ¬ l[i].f1 = l'[i].f1 := fun h1 => h (cell_ext h0 h1)
          simp [h1]
        · simp [h0]
theorem llGrid_some (n n' : Int) (l l' : List S24) (hl : l.length ≤ 1099511627776) (k : Nat) (hk : l.length + 1 < k) : ∃ b, laws_llGrid.f k n l n' l' = some b ∧ (b = true ↔ n = n' ∧ l = l') := by
  obtain ⟨k, rfl⟩ : ∃ m, k = m + 1 := ⟨k - 1, by omega⟩
  unfold laws_llGrid.f
  by_cases h : n = n'
  · rw [if_pos h]
    simp only [laws_llGrid.j0]
    by_cases he : l.length = l'.length
    · rw [if_neg (by simp [he])]
      obtain ⟨b, e, hb⟩ := llGrid_l0 n n' l l' hl he l.length k 0 (by omega) (by omega)
      rw [show ((0 : Nat) : Int) = 0 from rfl] at e
      exact ⟨b, e, by simpa [h] using hb⟩
    · rw [if_pos (by simp; omega)]
      exact ⟨false, rfl, by simp; exact fun _ hh => he (by rw [hh])⟩
  · rw [if_neg h]
    simp only [laws_llGrid.j0]
    exact ⟨false, by simp, by simp [h]⟩
theorem llGrid_same (n : Int) (l : List S24) (hl : l.length ≤ 1099511627776) (k : Nat) (hk : l.length + 1 < k) : laws_llGrid.f k n l n l = some true := by
  obtain ⟨b, e, hb⟩ := llGrid_some n n l l hl k hk
  rw [e, hb.2 ⟨rfl, rfl⟩]
end Go.Proofs.Ytbnofnamkgfadaa.P
namespace Go.Proofs.Ytbnofnamkgfadaa.P
open Go.RowKit Go.Proofs.YtbnofnamkgfadaaW.PrintWords Go.Proofs.YtbnofnamkgfadaaW.PrintLast Go.Proofs.YtbnofnamkgfadaaW.PrintMore
set_option linter.unusedVariables false
set_option linter.unusedSimpArgs false

/-- What GridPut tells. -/
def gridPut (n : Int) (l : List S24) (a c d : Int) : Int × List S24 × Bool :=
  if gridOkB n l = true ∧ cellOkB c d = true ∧ 0 ≤ a ∧ a < (l.length : Int) then (n, l.set a.toNat ⟨c, d⟩, true) else (0, [], false)
theorem gridPut_length (n : Int) (l : List S24) (a c d : Int) : (gridPut n l a c d).2.1.length ≤ l.length := by
  unfold gridPut
  split
  · simp
  · simp
theorem spec_GridPut_some (n : Int) (l : List S24) (a c d : Int) (hl : l.length ≤ 1099511627776) (k : Nat) (hk : l.length + 2 < k) : spec_GridPut.f k n l a c d = some (gridPut n l a c d) := by
  unfold spec_GridPut.f gridPut spec_l1Copy.f
  rw [spec_GridOk_some n l hl k hk]
  simp only [Option.bind_some, l6In_some, spec_CellOk_some]
  by_cases h : gridOkB n l = true
  · have h1 := shapeB_of (shape_of h).1
    rw [if_pos h, w64 _ (by omega) (by omega)]
    by_cases hc : cellOkB c d = true
    · rw [if_pos hc]
      by_cases ha : 0 ≤ a ∧ a < (l.length : Int)
      · have e1 : (decide (0 ≤ a) && decide (a ≤ (l.length : Int) - 1)) = true := by simp; omega
        rw [e1, if_pos rfl, if_pos (by simp; omega)]
        simp only [Option.bind_some, List.nil_append]
        rw [if_pos ha.1, if_pos ha.2, if_pos ⟨h, hc, ha.1, ha.2⟩]
      · have e1 : (decide (0 ≤ a) && decide (a ≤ (l.length : Int) - 1)) = false := by simp; omega
        rw [e1, if_neg (by decide), if_neg (fun h => ha ⟨h.2.2.1, h.2.2.2⟩)]
    · rw [if_neg hc, if_neg (fun h => hc h.2.1)]
  · rw [if_neg h, if_neg (fun h' => h h'.1)]
theorem impl_GridPut_some (n : Int) (l : List S24) (a c d : Int) (hl : l.length ≤ 1099511627776) (k : Nat) (hk : l.length + 3 < k) : impl_GridPut.f k n l a c d = some (gridPut n l a c d) := by
  unfold impl_GridPut.f gridPut impl_gridCopy.f slices_Clone.f
  rw [impl_GridOk_some n l hl k hk]
  simp only [Option.bind_some, impl_CellOk.f]
  by_cases h : gridOkB n l = true
  · have h1 := shapeB_of (shape_of h).1
    rw [if_pos h]
    by_cases hc : cellOkB c d = true
    · rw [if_pos hc]
      by_cases ha : a < 0
      · rw [if_pos ha, if_neg (fun h => by omega)]
      · rw [if_neg ha]
        by_cases hal : a ≥ (l.length : Int)
        · rw [if_pos hal, if_neg (fun h => by omega)]
        · rw [if_neg hal, if_pos (by omega)]
          simp only [Option.bind_some]
          rw [if_pos (by omega), if_pos (by omega), if_pos ⟨h, hc, by omega, by omega⟩]
    · rw [if_neg hc, if_neg (fun h => hc h.2.1)]
  · rw [if_neg h, if_neg (fun h' => h h'.1)]
end Go.Proofs.Ytbnofnamkgfadaa.P
namespace Go.Proofs.Ytbnofnamkgfadaa.P
open Go.RowKit Go.Proofs.YtbnofnamkgfadaaW.PrintWords Go.Proofs.YtbnofnamkgfadaaW.PrintLast Go.Proofs.YtbnofnamkgfadaaW.PrintMore
set_option linter.unusedVariables false
set_option linter.unusedSimpArgs false
theorem gridOkB_set {n : Int} {l : List S24} (h : gridOkB n l = true) (i : Nat) (x : S24) (hx : okCell x = true) : gridOkB n (l.set i x) = true := by
  obtain ⟨h1, h2⟩ := shape_of h
  unfold gridOkB
  rw [List.length_set, h1, Bool.true_and, List.all_eq_true]
  intro y hy
  rcases List.mem_or_eq_of_mem_set hy with h | h
  · exact List.all_eq_true.1 h2 y h
  · rw [h]
    exact hx
theorem gridPut_ok {n : Int} {l : List S24} {a c d : Int} (hg : gridOkB n l = true) (hc : cellOkB c d = true) (h0 : 0 ≤ a) (hl : a < (l.length : Int)) : gridPut n l a c d = (n, l.set a.toNat ⟨c, d⟩, true) := by
  unfold gridPut
  rw [if_pos ⟨hg, hc, h0, hl⟩]
theorem gridPut_no {n : Int} {l : List S24} {a c d : Int} (h : ¬ (gridOkB n l = true ∧ cellOkB c d = true ∧ 0 ≤ a ∧ a < (l.length : Int))) : gridPut n l a c d = (0, [], false) := by
  unfold gridPut
  rw [if_neg h]
end Go.Proofs.Ytbnofnamkgfadaa.P
namespace Go.Proofs.Ytbnofnamkgfadaa.Pure
open Go.RowKit Go.Proofs.Ytbnofnamkgfadaa.P Go.Proofs.YtbnofnamkgfadaaW.PrintWords Go.Proofs.YtbnofnamkgfadaaW.PrintLast
set_option linter.unusedVariables false
set_option linter.unusedSimpArgs false
theorem swapK_same {c d : Int} (hc : cellOkB c d = true) (h : c = 0 ∨ c = 1 ∨ ¬ c < 6) : swapK c = c := by
  have : ¬ c = 2 ∧ ¬ c = 3 ∧ ¬ c = 4 ∧ ¬ c = 5 := by omega
  unfold swapK
  rw [if_neg this.1, if_neg this.2.1, if_neg this.2.2.1, if_neg this.2.2.2]
theorem w64n (x : Nat) (h : x ≤ 1000) : wrap64 (x : Int) = (x : Int) := w64 _ (by omega) (by omega)
theorem wrapA (P R J : Nat) (hP : P ≤ 25) (hR : R ≤ J) (hJ : J < 5) : wrap64 ((wrap64 ((wrap64 ((wrap64 (P : Int)) + ((J + 1 : Nat) : Int))) - 1)) - (wrap64 (R : Int))) = ((P + J - R : Nat) : Int) := by
  rw [w64 (P : Int) (by omega) (by omega), w64 ((P : Int) + ((J + 1 : Nat) : Int)) (by omega) (by omega), w64 ((P : Int) + ((J + 1 : Nat) : Int) - 1) (by omega) (by omega), w64 (R : Int) (by omega) (by omega), w64 _ (by omega) (by omega)]
  omega
theorem wrapB (P R J : Nat) (hP : P ≤ 25) (hR : R ≤ J) (hJ : J < 5) : wrap64 ((wrap64 ((wrap64 ((wrap64 (P : Int)) + ((J + 1 : Nat) : Int))) - 1)) - (R : Int)) = ((P + J - R : Nat) : Int) := by
  rw [w64 (P : Int) (by omega) (by omega), w64 ((P : Int) + ((J + 1 : Nat) : Int)) (by omega) (by omega), w64 ((P : Int) + ((J + 1 : Nat) : Int) - 1) (by omega) (by omega), w64 _ (by omega) (by omega)]
  omega
theorem put_j0 (k : Nat) (hk : 100 < k) (i j : Nat) (hi : i < 5) (hj : j < 5) (l : List S24) (ho : okG i j l) (a : Nat) (ha : a < l.length) (c d : Int) (hc : cellOkB c d = true) (h : swapK c = c) (y : Int) (z : List S24) :
    laws_FnTurnPut.j0 k (a : Int) true true false ((i + 1 : Nat) : Int) l c d y z ((i + 1 : Nat) : Int) (l.set a ⟨c, d⟩) = some true := by
  obtain ⟨k, rfl⟩ : ∃ m, k = m + 1 := ⟨k - 1, by omega⟩
  have hm := ho.1
  have hn0 : ¬ (((i + 1 : Nat) : Int) = 0) := by omega
  have h25 := okG_25 hi hj ho
  obtain ⟨t1, o1⟩ := turn_ij hi hj ho
  obtain ⟨f1, p1⟩ := flip_ij hi hj ho
  have hs : okG i j (l.set a ⟨c, d⟩) := ⟨by rw [List.length_set]; exact hm, by
    have := gridOkB_set (okG_grid hi hj ho) a ⟨c, d⟩ hc
    exact (shape_of this).2⟩
  obtain ⟨t2, o2⟩ := turn_ij hi hj hs
  obtain ⟨f2, p2⟩ := flip_ij hi hj hs
  have hsw : swapC ⟨c, d⟩ = (⟨c, d⟩ : S24) := by
    unfold swapC
    simp only [h]
  rw [mov_set_turn hi hj ho ⟨c, d⟩ a ha, hsw] at t2
  rw [mov_set_flip hi hj ho ⟨c, d⟩ a ha, hsw] at f2
  have e1 := div_j hm
  have hr : a / (i + 1) < j + 1 := Nat.div_lt_of_lt_mul (by omega)
  have hcl : a % (i + 1) < i + 1 := Nat.mod_lt _ (by omega)
  have d1 : Int.tdiv (a : Int) ((i + 1 : Nat) : Int) = ((a / (i + 1) : Nat) : Int) := by rw [Int.tdiv_eq_ediv_of_nonneg (by omega)]; exact (Int.natCast_ediv _ _).symm
  have d2 : Int.tmod (a : Int) ((i + 1 : Nat) : Int) = ((a % (i + 1) : Nat) : Int) := by rw [Int.tmod_eq_emod_of_nonneg (by omega)]; exact (Int.natCast_emod _ _).symm
  have m1 : (a % (i + 1)) * (j + 1) + (j + 1) ≤ (j + 1) * (i + 1) := by
    have := Nat.mul_le_mul_right (j + 1) (show a % (i + 1) + 1 ≤ i + 1 by omega)
    rw [Nat.succ_mul] at this
    rw [Nat.mul_comm (j + 1) (i + 1)]
    exact this
  have m2 : (a / (i + 1)) * (i + 1) + (i + 1) ≤ (i + 1) * (j + 1) := by
    have := Nat.mul_le_mul_right (i + 1) (show a / (i + 1) + 1 ≤ j + 1 by omega)
    rw [Nat.succ_mul] at this
    rw [Nat.mul_comm (i + 1) (j + 1)]
    exact this
  have m3 : (j + 1) * (i + 1) ≤ 25 := by rw [← o1.1]; exact okG_25 hj hi o1
  have m4 : (i + 1) * (j + 1) ≤ 25 := by omega
  have e2 : ((a % (i + 1) : Nat) : Int) * ((j + 1 : Nat) : Int) = (((a % (i + 1)) * (j + 1) : Nat) : Int) := by rw [Int.natCast_mul]
  have e3 : ((a / (i + 1) : Nat) : Int) * ((i + 1 : Nat) : Int) = (((a / (i + 1)) * (i + 1) : Nat) : Int) := by rw [Int.natCast_mul]
  have w1 : wrap64 ((wrap64 ((wrap64 ((wrap64 ((Int.tmod (a : Int) ((i + 1 : Nat) : Int)) * (wrap64 ((l.length : Int) / ((i + 1 : Nat) : Int))))) + (wrap64 ((l.length : Int) / ((i + 1 : Nat) : Int))))) - 1)) - (wrap64 (Int.tdiv (a : Int) ((i + 1 : Nat) : Int)))) = ((((a % (i + 1)) * (j + 1) + j - a / (i + 1) : Nat)) : Int) := by
    rw [e1, d1, d2, w64 ((j + 1 : Nat) : Int) (by omega) (by omega), e2]
    exact wrapA _ _ _ (Nat.le_trans (Nat.le_trans (Nat.le_add_right _ _) m1) m3) (Nat.le_of_lt_succ hr) hj
  have w2 : wrap64 ((wrap64 ((wrap64 ((wrap64 ((wrap64 (Int.tdiv (a : Int) ((i + 1 : Nat) : Int))) * ((i + 1 : Nat) : Int))) + ((i + 1 : Nat) : Int))) - 1)) - (Int.tmod (a : Int) ((i + 1 : Nat) : Int))) = ((((a / (i + 1)) * (i + 1) + i - a % (i + 1) : Nat)) : Int) := by
    rw [d1, d2, w64n (a / (i + 1)) (Nat.le_trans (Nat.le_of_lt_succ hr) (by omega)), e3]
    exact wrapB _ _ _ (Nat.le_trans (Nat.le_trans (Nat.le_add_right _ _) m2) m4) (Nat.le_of_lt_succ hcl) hi
  have g1 := okG_grid hj hi o1
  have g2 := okG_grid hi hj p1
  have L1 := o1.1
  have L2 := p1.1
  have O1 := okG_25 hj hi o1
  have P1 := okG_25 hi hj p1
  have b1 : (a % (i + 1)) * (j + 1) + j - a / (i + 1) < (movC true l (TP i j)).length := by
    rw [L1]
    exact Nat.lt_of_le_of_lt (Nat.sub_le _ _) (Nat.lt_of_lt_of_le (Nat.add_lt_add_left (Nat.lt_succ_self j) _) m1)
  have b2 : (a / (i + 1)) * (i + 1) + i - a % (i + 1) < (movC true l (FP i j)).length := by
    rw [L2]
    exact Nat.lt_of_le_of_lt (Nat.sub_le _ _) (Nat.lt_of_lt_of_le (Nat.add_lt_add_left (Nat.lt_succ_self i) _) m2)
  simp only [laws_FnTurnPut.j0]
  rw [if_neg (by decide), if_neg hn0, w1, w2]
  generalize movC true l (TP i j) = x at *
  generalize movC true l (FP i j) = v at *
  have u1 := gridPut_ok (a := ((((a % (i + 1)) * (j + 1) + j - a / (i + 1) : Nat)) : Int)) g1 hc (Int.natCast_nonneg _) (Int.ofNat_lt.2 b1)
  have u2 := gridPut_ok (a := ((((a / (i + 1)) * (i + 1) + i - a % (i + 1) : Nat)) : Int)) g2 hc (Int.natCast_nonneg _) (Int.ofNat_lt.2 b2)
  rw [Int.toNat_natCast] at u1 u2
  simp only [impl_GridTurn_some _ _ (show l.length ≤ 1099511627776 by omega), Option.bind_some, t1, impl_GridPut_some _ x _ _ _ (by omega) k (by omega), u1, impl_GridFlip_some _ _ (show l.length ≤ 1099511627776 by omega), f1, impl_GridPut_some _ v _ _ _ (by omega) k (by omega), u2, if_true]
  have ls : (l.set a (⟨c, d⟩ : S24)).length ≤ 1099511627776 := by rw [List.length_set]; omega
  simp only [impl_GridTurn_some _ _ ls, impl_GridFlip_some _ _ ls, Option.bind_some, t2, f2]
  rw [llGrid_same _ _ (by rw [List.length_set]; omega) k (by rw [List.length_set]; omega)]
  simp only [Option.bind_some, if_true]
  rw [llGrid_same _ _ (by rw [List.length_set]; omega) k (by rw [List.length_set]; omega)]
  rfl
theorem FnTurnPut : laws_FnTurnPut.Pure := by
  intro l0 _ _ hw
  refine ⟨301, ?_⟩
  unfold laws_FnTurnPut.f
  by_cases hb : (l0.length : Int) > 1048576
  · rw [if_pos hb]
  rw [if_neg hb]
  obtain ⟨n, l, a, c, d, e, hl⟩ := drawGridPut_some l0 (bytes_of hw) 301 (by omega)
  have hlen := gridPut_length n l a c d
  rw [e]
  simp only [Option.bind_some, impl_GridPut_some n l a c d (by omega) 301 (by omega), spec_GridPut_some n l a c d (by omega) 301 (by omega)]
  have hne : ((gridPut n l a c d).2.2 != (gridPut n l a c d).2.2) = false := by simp
  have jt2 : laws_FnTurnPut.j0 301 a (gridPut n l a c d).2.2 (gridPut n l a c d).2.2 true n l c d (gridPut n l a c d).1 (gridPut n l a c d).2.1 (gridPut n l a c d).1 (gridPut n l a c d).2.1 = some true := by
    simp only [laws_FnTurnPut.j0, if_true, beq_self_eq_true, llGrid_same _ _ (show (gridPut n l a c d).2.1.length ≤ 1099511627776 by omega) 300 (by omega), Option.bind_some]
  rw [hne]
  simp only [Bool.false_eq_true, if_false, llGrid_same _ _ (show (gridPut n l a c d).2.1.length ≤ 1099511627776 by omega) 301 (by omega), Option.bind_some, if_true]
  by_cases hg : gridOkB n l = true ∧ cellOkB c d = true ∧ 0 ≤ a ∧ a < (l.length : Int)
  · obtain ⟨hg, hc, h0, hl'⟩ := hg
    have e1 := gridPut_ok hg hc h0 hl'
    obtain ⟨i, j, hi, hj, rfl, ho⟩ := okG_of hg
    obtain ⟨a, rfl⟩ := Int.eq_ofNat_of_zero_le h0
    rw [e1] at jt2 ⊢
    rw [Int.toNat_natCast] at jt2 ⊢
    have key := fun h => put_j0 301 (by omega) i j hi hj l ho a (by omega) c d hc h ((i + 1 : Nat) : Int) (l.set a ⟨c, d⟩)
    simp only [if_true]
    by_cases c0 : c = 0
    · rw [if_pos c0]
      exact key (swapK_same hc (.inl c0))
    · rw [if_neg c0]
      by_cases c1 : c = 1
      · rw [if_pos c1]
        exact key (swapK_same hc (.inr (.inl c1)))
      · rw [if_neg c1]
        by_cases c6 : c < 6
        · rw [decide_eq_true c6]
          exact jt2
        · rw [decide_eq_false c6]
          exact key (swapK_same hc (.inr (.inr c6)))
  · rw [gridPut_no hg] at jt2 ⊢
    exact jt2
end Go.Proofs.Ytbnofnamkgfadaa.Pure
