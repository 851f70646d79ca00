/- PROVED: the pure statement of FnTrailStep: light goes from cell to cell. No condition. -/
import Derived.RowKit
import Derived.Laws.BitsAllLaws
import Derived.Test.YteapnipnoadejaaPx6
import Derived.Test.YteapnipnoadejaaPx0
import Derived.Test.YteapnipnoadejaaPx4
import Derived.Test.YteapnipnoadejaaPx11
import Derived.Test.YteapnipnoadejaaPx9
import Derived.Test.YteapnipnoadejaaPx8
import Derived.Test.YteapnipnoadejaaPx10
import Derived.Test.YteapnipnoadejaaPx16
import Derived.Test.YteapnipnoadejaaPx5
import Derived.Test.YteapnipnoadejaaH1Cell
import Derived.Test.YteapnipnoadejaaPx17
import Derived.Test.YteapnipnoadejaaPx27
import Derived.Test.YteapnipnoadejaaPx20
import Derived.Test.YteapnipnoadejaaPx19
import Derived.Test.YteapnipnoadejaaPx18
import Derived.Test.YteapnipnoadejaaPx28
import Derived.Test.YteapnipnoadejaaPx31
import Derived.Test.YteapnipnoadejaaPx12
import Derived.Test.YteapnipnoadejaaPx7
import Derived.Test.YteapnipnoadejaaT1End
import Derived.Test.YteapnipnoadejaaPx23
import Derived.Test.YteapnipnoadejaaPx30
import Derived.Test.YteapnipnoadejaaPx34
import Derived.Test.YteapnipnoadejaaH1Ray
import Derived.Test.YteapnipnoadejaaPx22
import Derived.Test.YteapnipnoadejaaPx29
import Derived.Test.YteapnipnoadejaaPx33
import Derived.Test.YteapnipnoadejaaPx32
import Derived.Test.YteapnipnoadejaaPx25
import Derived.Test.YteapnipnoadejaaPx24
import Derived.Test.YteapnipnoadejaaH3SightOf
import Derived.Test.YteapnipnoadejaaPx35
import Derived.Test.YteapnipnoadejaaH2Told
import Derived.Test.YteapnipnoadejaaPx26
import Derived.Test.YteapnipnoadejaaH1Dir
import Derived.Test.YteapnipnoadejaaT3Go
import Derived.Test.YteapnipnoadejaaPx21
import Derived.Test.YteapnipnoadejaaT2Come
import Derived.Test.YteapnipnoadejaaPx36
import Derived.Test.YteapnipnoadejaaH4Beam
import Derived.Test.YteapnipnoadejaaT1Spread
import Derived.Test.YteapnipnoadejaaPx37
import Derived.Test.YteapnipnoadejaaPx40
import Derived.Test.YteapnipnoadejaaPx41
import Derived.Test.YteapnipnoadejaaPx49
import Derived.Test.YteapnipnoadejaaPx13
namespace Go.Proofs.Yteapnipnoadejaa.P
open Go.RowKit
set_option linter.unusedVariables false
set_option linter.unusedSimpArgs false
theorem w64 (x : Int) (h0 : -9223372036854775808 <= x) (h1 : x <= 9223372036854775807) : wrap64 x = x := by
 unfold wrap64
 omega
theorem tmod_in (x n : Int) (h0 : 0 <= x) (h1 : 1 <= n) : 0 <= Int.tmod x n ∧ Int.tmod x n < n := by
 rw [Int.tmod_eq_emod_of_nonneg h0]
 exact ⟨Int.emod_nonneg x (by omega), Int.emod_lt_of_pos x (by omega)⟩
end Go.Proofs.Yteapnipnoadejaa.P
namespace Go.Proofs.Yteapnipnoadejaa.P
open Go.RowKit Go.Proofs.YteapnipnoadejaaW
set_option linter.unusedVariables false
set_option linter.unusedSimpArgs false
theorem xor_i64 (a b : Int) (h0 : 0 <= a) (h1 : a < 4611686018427387904) (h2 : 0 <= b) (h3 : b < 4611686018427387904) :
  0 <= Go.bits .xor .i64 a b ∧ Go.bits .xor .i64 a b < 4611686018427387904 := by
 obtain ⟨a, rfl⟩ := Int.eq_ofNat_of_zero_le h0
 obtain ⟨b, rfl⟩ := Int.eq_ofNat_of_zero_le h2
 have hx : a ^^^ b < 2 ^ 62 := Nat.xor_lt_two_pow (by omega) (by omega)
 have e1 : (BitVec.ofInt 64 (a : Int)).toNat = a := by
  rw [BitVec.ofInt_natCast, BitVec.toNat_ofNat]
  exact Nat.mod_eq_of_lt (by omega)
 have e2 : (BitVec.ofInt 64 (b : Int)).toNat = b := by
  rw [BitVec.ofInt_natCast, BitVec.toNat_ofNat]
  exact Nat.mod_eq_of_lt (by omega)
 have e : Go.bits .xor .i64 (a : Int) (b : Int) = ((a ^^^ b : Nat) : Int) := by
  show IntKind.i64.wrap ((BitVec.ofInt 64 (a : Int) ^^^ BitVec.ofInt 64 (b : Int)).toNat : Int) = _
  rw [BitVec.toNat_xor, e1, e2, IntKind.wrap_i64]
  omega
 rw [e]
 omega
def Bytes (s : List Int) : Prop := ∀ x ∈ s, 0 <= x ∧ x <= 255
theorem Bytes.at_ {s : List Int} (h : Bytes s) (i : Int) : 0 <= rd s i ∧ rd s i <= 255 := by
 unfold rd
 rw [List.getD_eq_getElem?_getD]
 cases hh : s[i.toNat]? with
 | none => simp
 | some x => exact h x (List.mem_of_getElem? hh)
theorem Bytes.take {s : List Int} (h : Bytes s) (n : Nat) : Bytes (s.take n) := fun x hx => h x (List.mem_of_mem_take hx)
theorem bytes_of {l : List Int} (h : ∀ x ∈ l, (Lit.int .u8 x).wf = true) : Bytes l := by
 intro x hx
 have := h x hx
 simp [Lit.wf, IntKind.min, IntKind.max, IntKind.bits, IntKind.signed] at this
 omega
theorem pick_some (s : List Int) (hs : Bytes s) (p n : Int) (hp : 0 <= p) (hp1 : p <= 1000000000) (k : Nat) :
  ∃ v, Qu.f (k + 1) s p n = some (v, p + 1) ∧ 0 <= v ∧ (1 <= n -> v < n) := by
 unfold Qu.f
 rw [w64 (p + 1) (by omega) (by omega)]
 by_cases hn : n < 1
 ·rw [if_pos hn]
  exact ⟨0, by simp [Qu.j0], by omega, fun h => by omega⟩
 ·rw [if_neg hn]
  by_cases hl : (s.length : Int) = 0
  ·refine ⟨0, ?_, by omega, fun h => by omega⟩
   have e : ((s.length : Int) == 0) = true := by simpa using hl
   rw [e]
   simp [Qu.j0]
  ·have e : ((s.length : Int) == 0) = false := by simpa using hl
   rw [e]
   simp only [Qu.j0]
   rw [if_neg (show ¬ (false = true) by decide)]
   have ep : p + 1 - 1 = p := by omega
   rw [ep, w64 p (by omega) (by omega)]
   by_cases hi : p < (s.length : Int)
   ·rw [if_pos hi, if_pos hp, if_neg (show ¬ n = 0 by omega)]
    have hb := hs.at_ p
    rw [w64 (rd s p) (by omega) (by omega)]
    have := tmod_in (rd s p) n hb.1 (by omega)
    exact ⟨_, rfl, this.1, fun _ => this.2⟩
   ·rw [if_neg hi, if_neg hl]
    have hlp : 1 <= (s.length : Int) := by omega
    have m1 := tmod_in p (s.length : Int) hp hlp
    rw [if_pos m1.1, if_pos m1.2]
    rw [w64 (p * 7) (by omega) (by omega), w64 (p * 7 + 3) (by omega) (by omega)]
    have m2 := tmod_in (p * 7 + 3) (s.length : Int) (by omega) hlp
    rw [if_pos m2.1, if_pos m2.2, if_neg (show ¬ n = 0 by omega)]
    have b1 := hs.at_ (Int.tmod p (s.length : Int))
    have b2 := hs.at_ (Int.tmod (p * 7 + 3) (s.length : Int))
    generalize rd s (Int.tmod p (s.length : Int)) = x1 at *
    generalize rd s (Int.tmod (p * 7 + 3) (s.length : Int)) = x2 at *
    have d1 : 0 <= Int.tdiv p (s.length : Int) ∧ Int.tdiv p (s.length : Int) <= p := by
     rw [Int.tdiv_eq_ediv_of_nonneg hp]
     exact ⟨Int.ediv_nonneg hp (by omega), Int.ediv_le_self _ hp⟩
    generalize Int.tdiv p (s.length : Int) = x3 at *
    rw [w64 x1 (by omega) (by omega), w64 x2 (by omega) (by omega), w64 x3 (by omega) (by omega), w64 (x1 * 131) (by omega) (by omega), w64 (x2 * 1117) (by omega) (by omega),
     w64 (p * 29) (by omega) (by omega), w64 (x3 * 53) (by omega) (by omega), w64 (x1 * 131 + x2 * 1117) (by omega) (by omega), w64 (x1 * 131 + x2 * 1117 + p * 29) (by omega) (by omega),
     w64 (x1 * 131 + x2 * 1117 + p * 29 + x3 * 53) (by omega) (by omega)]
    have hX : 0 <= x1 * 131 + x2 * 1117 + p * 29 + x3 * 53 ∧ x1 * 131 + x2 * 1117 + p * 29 + x3 * 53 < 4611686018427387904 := by omega
    generalize x1 * 131 + x2 * 1117 + p * 29 + x3 * 53 = X at *
    have d2 : 0 <= Int.tdiv X 64 ∧ Int.tdiv X 64 <= X := by
     rw [Int.tdiv_eq_ediv_of_nonneg hX.1]
     exact ⟨Int.ediv_nonneg hX.1 (by omega), Int.ediv_le_self _ hX.1⟩
    rw [w64 (Int.tdiv X 64) (by omega) (by omega)]
    have hY := xor_i64 X (Int.tdiv X 64) hX.1 hX.2 d2.1 (by omega)
    have := tmod_in _ n hY.1 (by omega)
    exact ⟨_, rfl, this.1, fun _ => this.2⟩
theorem l6Open_some (s : List Int) (hs : Bytes s) : ∃ s', spec_l6Open.f s = some (s', 0) ∧ Bytes s' := by
 unfold spec_l6Open.f
 by_cases h : (s.length : Int) > 2000
 ·rw [if_pos h, if_pos (by omega)]
  exact ⟨_, rfl, hs.take 2000⟩
 ·rw [if_neg h]
  exact ⟨s, rfl, hs⟩
end Go.Proofs.Yteapnipnoadejaa.P
namespace Go.Proofs.Yteapnipnoadejaa.P
open Go.RowKit Go.Proofs.YteapnipnoadejaaW
set_option linter.unusedVariables false
set_option linter.unusedSimpArgs false
def Small (x : Int) : Prop := -2 <= x ∧ x <= 100
theorem pick_at (s : List Int) (hs : Bytes s) (p n : Int) (hp : 0 <= p) (hp1 : p <= 1000000000) (k : Nat) (hk : 0 < k) :
  ∃ v, Qu.f k s p n = some (v, p + 1) ∧ 0 <= v ∧ (1 <= n -> v < n) := by
 obtain ⟨k, rfl⟩ : ∃ m, k = m + 1 := ⟨k - 1, by omega⟩
 exact pick_some s hs p n hp hp1 k
theorem off_some (s : List Int) (hs : Bytes s) (p : Int) (hp : 0 <= p) (hp1 : p <= 1000000000) (k : Nat) (hk : 0 < k) :
  ∃ c d, Xc.f k s p = some (c, d, p + 1) ∧ Small c ∧ Small d := by
 unfold Xc.f
 obtain ⟨v, e, h0, h1⟩ := pick_at s hs p 6 hp hp1 k hk
 have h1 := h1 (by omega)
 simp only [Option.bind_some, e]
 rw [if_pos h0, if_pos (by simp; omega)]
 refine ⟨_, _, rfl, ?_⟩
 have : v = 0 ∨ v = 1 ∨ v = 2 ∨ v = 3 ∨ v = 4 ∨ v = 5 := by omega
 rcases this with rfl | rfl | rfl | rfl | rfl | rfl <;> (constructor <;> (unfold Small; decide))
theorem cellDraw_some (s : List Int) (hs : Bytes s) (p : Int) (hp : 0 <= p) (hp1 : p <= 900000000) (k : Nat) (hk : 2 < k) :
  ∃ c d p', Zf.f k s p = some (c, d, p') ∧ p <= p' ∧ p' <= p + 2 ∧ Small c ∧ Small d := by
 obtain ⟨k, rfl⟩ : ∃ m, k = m + 2 := ⟨k - 2, by omega⟩
 unfold Zf.f
 obtain ⟨v, e, h0, h1⟩ := pick_at s hs p 12 hp (by omega) (k + 2) (by omega)
 have h1 := h1 (by omega)
 rw [e]
 obtain ⟨u, e, g0, g1⟩ := pick_at s hs (p + 1) 9 (by omega) (by omega) k (by omega)
 have g1 := g1 (by omega)
 have ew : wrap64 (1 + u) = 1 + u := w64 _ (by omega) (by omega)
 have A1 : ∀ b, ∃ c d p', Zf.j1 (k + 1) v b s (p + 1) = some (c, d, p') ∧ p <= p' ∧ p' <= p + 2 ∧ Small c ∧ Small d := by
  intro b
  simp only [Zf.j1, e, Option.bind_some, ew]
  repeat' split
  all_goals exact ⟨_, _, _, rfl, by omega, by omega, by unfold Small; omega, by unfold Small; omega⟩
 have A0 : ∀ b, ∃ c d p', Zf.j0 (k + 2) v b s (p + 1) = some (c, d, p') ∧ p <= p' ∧ p' <= p + 2 ∧ Small c ∧ Small d := by
  intro b
  simp only [Zf.j0]
  split
  ·exact ⟨_, _, _, rfl, by omega, by omega, by unfold Small; omega, by unfold Small; omega⟩
  ·split
   ·exact A1 _
   ·exact A1 _
 simp only [Option.bind_some]
 split
 ·exact ⟨_, _, _, rfl, by omega, by omega, by unfold Small; omega, by unfold Small; omega⟩
 ·split
  ·exact A0 _
  ·exact A0 _
theorem gridDraw_l0 (s : List Int) (hs : Bytes s) (n : Int) : ∀ (m k : Nat) (p : Int) (acc : List S42), 0 <= p -> p + 2 * (m : Int) <= 900000000 -> m + 3 < k -> acc.length + m < 1000000 →
  ∃ l p', Za.l0 k (m : Int) s p n acc = some (n, l, p') ∧ l.length = acc.length + m ∧ p <= p' ∧ p' <= p + 2 * (m : Int)
 | 0, k, p, acc, hp, hq, hk, ha => by
  obtain ⟨k, rfl⟩ : ∃ m, k = m + 1 := ⟨k - 1, by omega⟩
  simp only [Za.l0]
  rw [if_neg (by omega)]
  exact ⟨_, _, rfl, by omega, by omega, by omega⟩
 | m + 1, k, p, acc, hp, hq, hk, ha => by
  obtain ⟨k, rfl⟩ : ∃ m, k = m + 1 := ⟨k - 1, by omega⟩
  simp only [Za.l0]
  rw [if_pos (by omega)]
  obtain ⟨c, d, p', e, h1, h2, _, _⟩ := cellDraw_some s hs p hp (by omega) k (by omega)
  rw [e]
  simp only [Option.bind_some]
  rw [if_pos (by omega), w64 _ (by omega) (by omega), show ((m + 1 : Nat) : Int) - 1 = (m : Int) from by omega]
  obtain ⟨l, q, e, g1, g2, g3⟩ := gridDraw_l0 s hs n m k p' (acc ++ [⟨c, d⟩]) (by omega) (by omega) (by omega) (by simp; omega)
  rw [e]
  exact ⟨l, q, rfl, by simp at g1; omega, by omega, by omega⟩
theorem gridDraw_some (s : List Int) (hs : Bytes s) (p : Int) (hp : 0 <= p) (hp1 : p <= 800000000) (k : Nat) (hk : 40 < k) :
  ∃ n l p', Za.f k s p = some (n, l, p') ∧ 1 <= n ∧ n <= 5 ∧ 1 <= l.length ∧ l.length <= 25 ∧ p <= p' ∧ p' <= p + 52 := by
 unfold Za.f
 obtain ⟨v, e, h0, h1⟩ := pick_at s hs p 5 hp (by omega) k (by omega)
 have h1 := h1 (by omega)
 rw [e]
 obtain ⟨u, e, g0, g1⟩ := pick_at s hs (p + 1) 5 (by omega) (by omega) k (by omega)
 have g1 := g1 (by omega)
 simp only [Option.bind_some, e]
 rw [w64 (1 + v) (by omega) (by omega), w64 (1 + u) (by omega) (by omega)]
 have hm : 1 <= (1 + v) * (1 + u) ∧ (1 + v) * (1 + u) <= 25 := by
  have : v = 0 ∨ v = 1 ∨ v = 2 ∨ v = 3 ∨ v = 4 := by omega
  rcases this with rfl | rfl | rfl | rfl | rfl <;> omega
 rw [w64 _ (by omega) (by omega)]
 generalize (1 + v) * (1 + u) = M at hm
 obtain ⟨m, rfl⟩ := Int.eq_ofNat_of_zero_le (show 0 <= M by omega)
 obtain ⟨l, q, e, f1, f2, f3⟩ := gridDraw_l0 s hs (1 + v) m k (p + 1 + 1) [] (by omega) (by omega) (by omega) (by simp; omega)
 rw [e]
 exact ⟨_, _, _, rfl, by omega, by omega, by simp at f1; omega, by simp at f1; omega, by omega, by omega⟩
theorem some_j1 (s : List Int) (p n : Int) (l : List S42) (k : Nat) (hk : 0 < k) : Wd.j1 k s p n l = some (n, l, p) := by
 obtain ⟨k, rfl⟩ : ∃ m, k = m + 1 := ⟨k - 1, by omega⟩
 rw [Wd.j1]
theorem someDraw_l0 (s : List Int) (n : Int) (h1 : 1 <= n) (h5 : n <= 5) (p : Int) : ∀ (m k : Nat) (acc : List S42), (acc.length : Int) + (m : Int) = n * 5 + 1 -> m + 6 < k →
  ∃ l, Wd.l0 k s p n acc = some (n, l, p) ∧ l.length <= 26
 | 0, k, acc, ha, hk => by
  obtain ⟨k, rfl⟩ : ∃ m, k = m + 1 := ⟨k - 1, by omega⟩
  simp only [Wd.l0]
  rw [w64 (n * 5) (by omega) (by omega), if_neg (by omega), some_j1 s p n acc k (by omega)]
  exact ⟨_, rfl, by omega⟩
 | m + 1, k, acc, ha, hk => by
  obtain ⟨k, rfl⟩ : ∃ m, k = m + 1 := ⟨k - 1, by omega⟩
  simp only [Wd.l0]
  rw [w64 (n * 5) (by omega) (by omega), if_pos (by omega), if_pos (by omega)]
  exact someDraw_l0 s n h1 h5 p m k (acc ++ [⟨0, 0⟩]) (by simp; omega) (by omega)
theorem someDraw_j (s : List Int) (n : Int) (h1 : 1 <= n) (h5 : n <= 5) (p : Int) (k : Nat) (hk : 40 < k) (acc : List S42) (ha : acc.length <= 25) :
  ∃ l, Wd.l0 k s p n acc = some (n, l, p) ∧ l.length <= 26 := by
 by_cases h : (acc.length : Int) <= n * 5 + 1
 ·obtain ⟨m, hm⟩ := Int.eq_ofNat_of_zero_le (show 0 <= n * 5 + 1 - (acc.length : Int) by omega)
  exact someDraw_l0 s n h1 h5 p m k acc (by omega) (by omega)
 ·obtain ⟨k, rfl⟩ : ∃ m, k = m + 1 := ⟨k - 1, by omega⟩
  simp only [Wd.l0]
  rw [w64 (n * 5) (by omega) (by omega), if_neg (by omega), some_j1 s p n acc k (by omega)]
  exact ⟨_, rfl, by omega⟩
theorem someDraw_some (s : List Int) (hs : Bytes s) (p : Int) (hp : 0 <= p) (hp1 : p <= 700000000) (k : Nat) (hk : 50 < k) :
  ∃ n l p', Wd.f k s p = some (n, l, p') ∧ -1 <= n ∧ n <= 6 ∧ l.length <= 26 ∧ p <= p' ∧ p' <= p + 60 := by
 unfold Wd.f
 obtain ⟨n, l, q, e, a1, a2, a3, a4, a5, a6⟩ := gridDraw_some s hs p hp (by omega) k (by omega)
 rw [e]
 simp only [Option.bind_some]
 obtain ⟨v, e, h0, h1⟩ := pick_at s hs q 24 (by omega) (by omega) k (by omega)
 have h1 := h1 (by omega)
 rw [e]
 simp only [Option.bind_some]
 split
 ·exact ⟨_, _, _, rfl, by omega, by omega, by omega, by omega, by omega⟩
 ·obtain ⟨u, e, g0, g1⟩ := pick_at s hs (q + 1) 5 (by omega) (by omega) k (by omega)
  rw [e]
  simp only [Option.bind_some]
  split
  ·obtain ⟨x, e, b0, b1⟩ := pick_at s hs (q + 1 + 1) 3 (by omega) (by omega) k (by omega)
   have b1 := b1 (by omega)
   rw [e]
   simp only [Option.bind_some]
   rw [if_pos b0, if_pos (by simp; omega), some_j1 _ _ _ _ k (by omega)]
   have : x = 0 ∨ x = 1 ∨ x = 2 := by omega
   rcases this with rfl | rfl | rfl
   ·exact ⟨_, _, _, rfl, by decide, by decide, by omega, by omega, by omega⟩
   ·exact ⟨_, _, _, rfl, by decide, by decide, by omega, by omega, by omega⟩
   ·exact ⟨_, _, _, rfl, by decide, by decide, by omega, by omega, by omega⟩
  ·split
   ·rw [if_pos (by omega), some_j1 _ _ _ _ k (by omega)]
    exact ⟨_, _, _, rfl, by omega, by omega, by simp; omega, by omega, by omega⟩
   ·split
    ·obtain ⟨x, e, b0, b1⟩ := pick_at s hs (q + 1 + 1) (l.length : Int) (by omega) (by omega) k (by omega)
     have b1 := b1 (by omega)
     rw [e]
     simp only [Option.bind_some]
     obtain ⟨c, d, e, _, _⟩ := off_some s hs (q + 1 + 1 + 1) (by omega) (by omega) k (by omega)
     rw [e]
     simp only [Option.bind_some]
     rw [if_pos b0, if_pos b1, some_j1 _ _ _ _ k (by omega)]
     exact ⟨_, _, _, rfl, by omega, by omega, by simp; omega, by omega, by omega⟩
    ·split
     ·obtain ⟨l', e, hl⟩ := someDraw_j s n a1 a2 (q + 1 + 1) k (by omega) l (by omega)
      rw [e]
      exact ⟨_, _, _, rfl, by omega, by omega, by omega, by omega, by omega⟩
     ·rw [some_j1 _ _ _ _ k (by omega)]
      exact ⟨_, _, _, rfl, by omega, by omega, by simp, by omega, by omega⟩
end Go.Proofs.Yteapnipnoadejaa.P
namespace Go.Proofs.Yteapnipnoadejaa.P
open Go.RowKit Go.Proofs.YteapnipnoadejaaW
set_option linter.unusedVariables false
set_option linter.unusedSimpArgs false
theorem spec_CellOk_some (a b : Int) : spec_CellOk.f a b = some (cellOkB a b) := by
 unfold spec_CellOk.f Wy.f cellOkB
 by_cases h7 : a = 7
 ·subst h7
  by_cases h1 : b >= 1
  ·simp [h1]
  ·simp [h1]
 ·rw [if_neg h7, if_neg h7]
  by_cases h0 : a >= 0
  ·by_cases h6 : a <= 6
   ·simp [h0, h6]
    by_cases hb : b = 0 <;> simp [hb]
   ·simp [h0, h6]
  ·simp [h0]
end Go.Proofs.Yteapnipnoadejaa.P
namespace Go.Proofs.Yteapnipnoadejaa.P
open Go.RowKit Go.Proofs.YteapnipnoadejaaW
set_option linter.unusedVariables false
set_option linter.unusedSimpArgs false
theorem rd_at (l : List S42) (i : Nat) (h : i < l.length) : Qx l (i : Int) = l[i] := by
 unfold Qx
 simp [List.getD_eq_getElem?_getD, List.getElem?_eq_getElem h]
def okCell (c : S42) : Bool := cellOkB c.f0 c.f1
def Xz (n : Int) (m : Nat) : Bool := decide (1 <= n) && (decide (n <= 5) && (decide ((m : Int) % n = 0) && (decide (0 < m) && decide ((m : Int) <= n * 5))))
def Yo (n : Int) (l : List S42) : Bool := Xz n l.length && l.all okCell
theorem spec_GridOk_l0 (l : List S42) (hl : l.length <= 1099511627776) (n : Int) : ∀ (d k i : Nat), i + d = l.length -> d < k -> Wx.l0 k (i : Int) n l = some ((l.drop i).all okCell)
 | 0, k, i, hi, hk => by
  obtain ⟨k, rfl⟩ : ∃ m, k = m + 1 := ⟨k - 1, by omega⟩
  simp only [Wx.l0]
  rw [if_neg (by omega), List.drop_eq_nil_of_le (by omega)]
  rfl
 | d + 1, k, i, hi, hk => by
  obtain ⟨k, rfl⟩ : ∃ m, k = m + 1 := ⟨k - 1, by omega⟩
  have hlt : i < l.length := by omega
  simp only [Wx.l0]
  rw [if_pos (by omega), if_pos (by omega), rd_at l i hlt, spec_CellOk_some]
  simp only [Option.bind_some]
  rw [List.drop_eq_getElem_cons hlt, List.all_cons, w64 _ (by omega) (by omega)]
  have ih := spec_GridOk_l0 l hl n d k (i + 1) (by omega) (by omega)
  rw [show ((i + 1 : Nat) : Int) = (i : Int) + 1 from by omega] at ih
  rw [ih]
  show (if okCell l[i] = true then _ else _) = _
  cases okCell l[i] <;> simp
theorem impl_GridOk_l0 (l : List S42) (hl : l.length <= 1099511627776) : ∀ (d k i : Nat), i + d = l.length -> d < k -> Wq.l0 k l (l.length : Int) (i : Int) = some ((l.drop i).all okCell)
 | 0, k, i, hi, hk => by
  obtain ⟨k, rfl⟩ : ∃ m, k = m + 1 := ⟨k - 1, by omega⟩
  simp only [Wq.l0]
  rw [if_neg (by omega), List.drop_eq_nil_of_le (by omega)]
  rfl
 | d + 1, k, i, hi, hk => by
  obtain ⟨k, rfl⟩ : ∃ m, k = m + 1 := ⟨k - 1, by omega⟩
  have hlt : i < l.length := by omega
  simp only [Wq.l0]
  rw [if_pos (by omega), if_pos (by omega), if_pos (by omega), rd_at l i hlt]
  simp only [impl_CellOk.f, Option.bind_some]
  rw [List.drop_eq_getElem_cons hlt, List.all_cons, w64 _ (by omega) (by omega)]
  have ih := impl_GridOk_l0 l hl d k (i + 1) (by omega) (by omega)
  rw [show ((i + 1 : Nat) : Int) = (i : Int) + 1 from by omega] at ih
  rw [ih]
  show (if okCell l[i] = true then _ else _) = _
  cases okCell l[i] <;> simp
theorem spec_GridOk_some (n : Int) (l : List S42) (hl : l.length <= 1099511627776) (k : Nat) (hk : l.length + 2 < k) : Wx.f k n l = some (Yo n l) := by
 obtain ⟨k, rfl⟩ : ∃ m, k = m + 1 := ⟨k - 1, by omega⟩
 unfold Wx.f Yo Xz
 have hloop := spec_GridOk_l0 l hl n l.length k 0 (by omega) (by omega)
 simp only [List.drop_zero] at hloop
 rw [show ((0 : Nat) : Int) = 0 from rfl] at hloop
 have jt : ∀ b, Wx.j0 (k + 1) b n l = some (!b && l.all okCell) := by
  intro b
  simp only [Wx.j0]
  cases b
  ·rw [if_neg (by decide), hloop]
   simp
  ·simp
 by_cases h1 : 1 <= n
 ·by_cases h5 : n <= 5
  ·have e : Wy.f n 1 5 = some true := by
    unfold Wy.f
    rw [if_pos h1]
    simp [h5]
   rw [e]
   simp only [Option.bind_some, if_true, jt]
   rw [if_neg (by omega)]
   by_cases hm : (l.length : Int) % n = 0
   ·rw [if_pos hm]
    have hq : 0 <= (l.length : Int) / n := Int.ediv_nonneg (by omega) (by omega)
    have hq2 : (l.length : Int) / n <= l.length := Int.ediv_le_self _ (by omega)
    rw [w64 _ (by omega) (by omega)]
    have hmul : n * ((l.length : Int) / n) = l.length := by
     have := Int.mul_ediv_add_emod (l.length : Int) n
     omega
    have ep : (1 <= (l.length : Int) / n) ↔ 0 < l.length := by
     constructor
     ·intro h
      have : 0 < n * ((l.length : Int) / n) := Int.mul_pos (by omega) (by omega)
      omega
     ·intro h
      rcases Int.lt_or_le ((l.length : Int) / n) 1 with h' | h'
      ·have : (l.length : Int) / n = 0 := by omega
       rw [this] at hmul
       omega
      ·exact h'
    have eq : ((l.length : Int) / n <= 5) ↔ (l.length : Int) <= n * 5 := by
     constructor
     ·intro h
      have := Int.mul_le_mul_of_nonneg_left h (show 0 <= n by omega)
      omega
     ·intro h
      rcases Int.lt_or_le 5 ((l.length : Int) / n) with h' | h'
      ·have := Int.mul_le_mul_of_nonneg_left (show 6 <= (l.length : Int) / n by omega) (show 0 <= n by omega)
       omega
      ·exact h'
    unfold Wy.f
    by_cases p : 0 < l.length
    ·rw [if_pos (ep.2 p)]
     by_cases q : (l.length : Int) <= n * 5
     ·simp [h1, h5, hm, p, q, eq.2 q]
     ·simp [h1, h5, hm, p, q, show ¬ ((l.length : Int) / n <= 5) from fun h => q (eq.1 h)]
    ·rw [if_neg (fun h => p (ep.1 h))]
     simp [p]
   ·rw [if_neg hm]
    simp [hm]
  ·have e : Wy.f n 1 5 = some false := by
    unfold Wy.f
    rw [if_pos h1]
    simp [h5]
   rw [e]
   simp [jt, h5]
 ·have e : Wy.f n 1 5 = some false := by
   unfold Wy.f
   rw [if_neg h1]
  rw [e]
  simp [jt, h1]
theorem impl_GridOk_some (n : Int) (l : List S42) (hl : l.length <= 1099511627776) (k : Nat) (hk : l.length + 3 < k) : Wq.f k n l = some (Yo n l) := by
 obtain ⟨k, rfl⟩ : ∃ m, k = m + 2 := ⟨k - 2, by omega⟩
 unfold Wq.f Yo Xz
 have hloop := impl_GridOk_l0 l hl l.length k 0 (by omega) (by omega)
 simp only [List.drop_zero] at hloop
 rw [show ((0 : Nat) : Int) = 0 from rfl] at hloop
 have j1 : ∀ b, Wq.j1 (k + 1) b n l = some (!b && l.all okCell) := by
  intro b
  simp only [Wq.j1]
  cases b
  ·rw [if_neg (by decide), hloop]
   simp
  ·simp
 have jt : Wq.j0 (k + 2) true n l = some false := by simp [Wq.j0]
 by_cases h1 : n < 1
 ·rw [if_pos h1, jt]
  simp [show ¬ (1 <= n) by omega]
 ·rw [if_neg h1]
  by_cases h5 : n > 5
  ·rw [decide_eq_true h5, jt]
   simp [show ¬ (n <= 5) by omega]
  ·rw [decide_eq_false h5]
   simp only [Wq.j0]
   rw [if_neg (by decide), w64 (n * 5) (by omega) (by omega)]
   have g1 : 1 <= n := by omega
   have g5 : n <= 5 := by omega
   by_cases p : 0 < l.length
   ·rw [if_neg (by omega)]
    by_cases q : (l.length : Int) <= n * 5
    ·rw [if_neg (by omega), if_neg (by omega), j1]
     by_cases hm : (l.length : Int) % n = 0
     ·simp [g1, g5, hm, p, q]
     ·simp [hm]
    ·rw [if_pos (by omega), j1]
     simp [q]
   ·rw [if_pos (by omega), j1]
    simp [p]
end Go.Proofs.Yteapnipnoadejaa.P
namespace Go.Proofs.Yteapnipnoadejaa.P
open Go.RowKit Go.Proofs.YteapnipnoadejaaW
set_option linter.unusedVariables false
set_option linter.unusedSimpArgs false
theorem l6In_some (x lo hi : Int) : Wy.f x lo hi = some (decide (lo <= x) && decide (x <= hi)) := by
 unfold Wy.f
 by_cases h : x >= lo
 ·rw [if_pos h]
  simp [h]
 ·rw [if_neg h]
  simp [h]
theorem shape_of {n : Int} {l : List S42} (h : Yo n l = true) : Xz n l.length = true ∧ l.all okCell = true := by
 unfold Yo at h
 simpa using h
theorem Xg {n : Int} {m : Nat} (h : Xz n m = true) : 1 <= n ∧ n <= 5 ∧ (m : Int) % n = 0 ∧ 0 < m ∧ (m : Int) <= n * 5 := by
 unfold Xz at h
 simp at h
 exact ⟨h.1, h.2.1, h.2.2.1, h.2.2.2.1, h.2.2.2.2⟩
theorem Xi {n : Int} {m : Nat} (h : Xz n m = true) : 1 <= (m : Int) / n ∧ (m : Int) / n <= 5 ∧ n * ((m : Int) / n) = m := by
 obtain ⟨h1, h5, hm, h0, hl⟩ := Xg h
 have hmul : n * ((m : Int) / n) = m := by
  have := Int.mul_ediv_add_emod (m : Int) n
  omega
 have hq : 0 <= (m : Int) / n := Int.ediv_nonneg (by omega) (by omega)
 refine ⟨?_, ?_, hmul⟩
 ·rcases Int.lt_or_le ((m : Int) / n) 1 with h' | h'
  ·have : (m : Int) / n = 0 := by omega
   rw [this] at hmul
   omega
  ·exact h'
 ·rcases Int.lt_or_le 5 ((m : Int) / n) with h' | h'
  ·have := Int.mul_le_mul_of_nonneg_left (show 6 <= (m : Int) / n by omega) (show 0 <= n by omega)
   omega
  ·exact h'
def Xk (n : Int) (m : Nat) : Int := 2 * (n + (m : Int) / n)
def sightMany (n : Int) (l : List S42) : Int := if Yo n l = true then Xk n l.length else 0
theorem sights_in {n : Int} {m : Nat} (h : Xz n m = true) : 4 <= Xk n m ∧ Xk n m <= 20 := by
 have := Xi h
 have := Xg h
 unfold Xk
 omega
theorem spec_l1High_some {n : Int} {l : List S42} (h : Xz n l.length = true) : Yh.f n l = some ((l.length : Int) / n) := by
 have := Xg h
 have := Xi h
 unfold Yh.f
 rw [if_neg (by omega), w64 _ (by omega) (by omega)]
theorem impl_gridRows_some {n : Int} {l : List S42} (h : Xz n l.length = true) : Yj.f n l = some ((l.length : Int) / n) := by
 have := Xg h
 have := Xi h
 unfold Yj.f
 rw [if_neg (by omega), w64 _ (by omega) (by omega)]
theorem spec_l3Many_some {n : Int} {l : List S42} (h : Xz n l.length = true) : Yg.f n l = some (Xk n l.length) := by
 have := Xg h
 have := Xi h
 unfold Yg.f Xk
 rw [spec_l1High_some h]
 simp only [Option.bind_some]
 rw [w64 (n + _) (by omega) (by omega), w64 _ (by omega) (by omega)]
theorem spec_SightMany_some (n : Int) (l : List S42) (hl : l.length <= 1099511627776) (k : Nat) (hk : l.length + 2 < k) : Yp.f k n l = some (sightMany n l) := by
 unfold Yp.f sightMany
 rw [spec_GridOk_some n l hl k hk]
 simp only [Option.bind_some]
 by_cases h : Yo n l = true
 ·rw [if_pos h, if_pos h, spec_l3Many_some (shape_of h).1]
  rfl
 ·rw [if_neg h, if_neg h]
theorem impl_SightMany_some (n : Int) (l : List S42) (hl : l.length <= 1099511627776) (k : Nat) (hk : l.length + 3 < k) : Xb.f k n l = some (sightMany n l) := by
 unfold Xb.f sightMany
 rw [impl_GridOk_some n l hl k hk]
 simp only [Option.bind_some]
 by_cases h : Yo n l = true
 ·have := Xg (shape_of h).1
  have := Xi (shape_of h).1
  rw [if_pos h, if_pos h, impl_gridRows_some (shape_of h).1]
  simp only [Option.bind_some]
  unfold Xk
  rw [w64 (n + _) (by omega) (by omega), w64 _ (by omega) (by omega)]
 ·rw [if_neg h, if_neg h]
end Go.Proofs.Yteapnipnoadejaa.P
namespace Go.Proofs.Yteapnipnoadejaa.P
open Go.RowKit Go.Proofs.YteapnipnoadejaaW
set_option linter.unusedVariables false
set_option linter.unusedSimpArgs false
theorem sightDraw_some (s : List Int) (hs : Bytes s) (p : Int) (hp : 0 <= p) (hp1 : p <= 700000000) (n : Int) (l : List S42) (hl : l.length <= 26) (k : Nat) (hk : 40 < k) :
  ∃ a p', Zo.f k s p n l = some (a, p') ∧ p <= p' ∧ p' <= p + 2 := by
 obtain ⟨k, rfl⟩ : ∃ m, k = m + 1 := ⟨k - 1, by omega⟩
 unfold Zo.f
 have J : ∀ (c : Int) (b : Bool) (q : Int), 0 <= q -> q <= 800000000 -> ∃ a, Zo.j0 (k + 1) c b s q = some (a, q + 1) := by
  intro c b q hq hq1
  simp only [Zo.j0, Option.bind_some]
  obtain ⟨x, e, b0, b1⟩ := pick_at s hs q 3 (by omega) (by omega) k (by omega)
  have b1 := b1 (by omega)
  obtain ⟨y, e2, c0, c1⟩ := pick_at s hs q c (by omega) (by omega) k (by omega)
  rw [e, e2]
  simp only [Option.bind_some]
  cases b
  ·rw [if_neg (by decide)]
   exact ⟨_, rfl⟩
  ·rw [if_pos rfl, if_pos b0, if_pos (by simp; omega)]
   exact ⟨_, rfl⟩
 rw [spec_SightMany_some n l (by omega) (k + 1) (by omega)]
 simp only [Option.bind_some]
 split
 ·obtain ⟨a, e⟩ := J (sightMany n l) true p hp (by omega)
  exact ⟨_, _, e, by omega, by omega⟩
 ·obtain ⟨x, e, b0, b1⟩ := pick_at s hs p 24 (by omega) (by omega) (k + 1) (by omega)
  rw [e]
  simp only [Option.bind_some]
  obtain ⟨a, e⟩ := J (sightMany n l) (x == 0) (p + 1) (by omega) (by omega)
  exact ⟨_, _, e, by omega, by omega⟩
theorem drawSightRay_some (s : List Int) (hs : Bytes s) (k : Nat) (hk : 60 < k) : ∃ n l a, Yu.f k s = some (n, l, a) ∧ l.length <= 26 := by
 unfold Yu.f
 obtain ⟨s, e, hs⟩ := l6Open_some s hs
 rw [e]
 simp only [Option.bind_some]
 obtain ⟨n, l, q, e, h1, h2, h3, h4, h5⟩ := someDraw_some s hs 0 (by omega) (by omega) k (by omega)
 rw [e]
 simp only [Option.bind_some]
 obtain ⟨a, r, e, h6, h7⟩ := sightDraw_some s hs q (by omega) (by omega) n l h3 k (by omega)
 rw [e]
 exact ⟨_, _, _, rfl, h3⟩
end Go.Proofs.Yteapnipnoadejaa.P
namespace Go.Proofs.Yteapnipnoadejaa.P
open Go.RowKit Go.Proofs.YteapnipnoadejaaW
set_option linter.unusedVariables false
set_option linter.unusedSimpArgs false
structure Way where
 nx : Int -> Int -> Option Int
 so : Int -> Int -> Int
 kd : Int -> Int
 tn : Int -> Int -> Int
structure Spread where
 pass : Int
 turn : Int
 lost : Int
 stop : Int
def Yf (kind w : Int) : Spread :=
 if kind = 0 then ⟨w, 0, 0, 0⟩ else if kind = 1 ∨ kind = 7 then ⟨0, 0, 0, w⟩ else if kind = 2 ∨ kind = 3 then ⟨0, w, 0, 0⟩
 else if kind = 4 ∨ kind = 5 then ⟨Int.tdiv w 2, Int.tdiv w 2, w - Int.tdiv w 2 - Int.tdiv w 2, 0⟩ else ⟨Int.tdiv w 2, 0, w - Int.tdiv w 2, 0⟩
def leaveW (G : Way) (c : Int -> Int -> Int -> Option (List TV × List TE)) (a d w : Int) : Option (List TV × List TE) :=
 if w = 0 then some ([], []) else match G.nx a d with
  | none => some ([], endL 0 (G.so a d) w)
  | some b => c b d w
def come (G : Way) : Nat -> Int -> Int -> Int -> Option (List TV × List TE)
 | 0, _, _, _ => none
 | k + 1, a, d, w =>
  (leaveW G (come G k) a d (Yf (G.kd a) w).pass).bind fun p =>
  (leaveW G (come G k) a (G.tn (G.kd a) d) (Yf (G.kd a) w).turn).bind fun q =>
  some (⟨a, d, w⟩ :: (p.1 ++ q.1), endL (stopK (G.kd a)) a (Yf (G.kd a) w).stop ++ (endL 3 a (Yf (G.kd a) w).lost ++ (p.2 ++ q.2)))
structure Way.Ok (G : Way) (m : Nat) : Prop where
 kin : ∀ a, 0 <= a -> a < (m : Int) -> 0 <= G.kd a ∧ G.kd a <= 7
 tin : ∀ k d, 0 <= d -> d < 4 -> 0 <= G.tn k d ∧ G.tn k d < 4
 tt : ∀ k d d', 0 <= d -> d < 4 -> 0 <= d' -> d' < 4 -> G.tn k d = G.tn k d' -> d = d'
 t0 : ∀ k d, 0 <= d -> d < 4 -> ¬ (2 <= k ∧ k <= 5) -> G.tn k d = d
 nin : ∀ a d b, 0 <= a -> a < (m : Int) -> 0 <= d -> d < 4 -> G.nx a d = some b -> 0 <= b ∧ b < (m : Int)
 back : ∀ a d b, 0 <= a -> a < (m : Int) -> 0 <= d -> d < 4 -> G.nx a d = some b -> G.nx b ((d + 2) % 4) = some a
def inW (m : Nat) (s : Int × Int) : Prop := 0 <= s.1 ∧ s.1 < (m : Int) ∧ 0 <= s.2 ∧ s.2 < 4
def plain (G : Way) (s : Int × Int) : Prop := G.kd s.1 = 0 ∨ G.kd s.1 = 2 ∨ G.kd s.1 = 3
instance (G : Way) (s : Int × Int) : Decidable (plain G s) := inferInstanceAs (Decidable (_ ∨ _ ∨ _))
def stW (G : Way) (s : Int × Int) : Option (Int × Int) :=
 if plain G s then (G.nx s.1 (G.tn (G.kd s.1) s.2)).map fun b => (b, G.tn (G.kd s.1) s.2) else none
def chain (G : Way) (s : Int × Int) : Nat -> Option (Int × Int)
 | 0 => some s
 | i + 1 => (chain G s i).bind (stW G)
def fresh (G : Way) (s : Int × Int) : Prop := ∀ x, G.nx s.1 ((s.2 + 2) % 4) = some x -> ¬ plain G (x, 0)
theorem plain_snd {G : Way} {a d d' : Int} (h : plain G (a, d)) : plain G (a, d') := h
theorem stW_in {G : Way} {m : Nat} (hG : G.Ok m) {s t : Int × Int} (hs : inW m s) (h : stW G s = some t) : inW m t ∧ plain G s ∧ G.nx t.1 ((t.2 + 2) % 4) = some s.1 ∧ t.2 = G.tn (G.kd s.1) s.2 := by
 unfold stW at h
 by_cases hp : plain G s
 ·rw [if_pos hp] at h
  obtain ⟨b, hb, rfl⟩ := Option.map_eq_some_iff.1 h
  obtain ⟨h0, h1, h2, h3⟩ := hs
  obtain ⟨t0, t1⟩ := hG.tin (G.kd s.1) s.2 h2 h3
  obtain ⟨b0, b1⟩ := hG.nin _ _ b h0 h1 t0 t1 hb
  exact ⟨⟨b0, b1, t0, t1⟩, hp, hG.back _ _ b h0 h1 t0 t1 hb, rfl⟩
 ·rw [if_neg hp] at h
  cases h
theorem stW_inj {G : Way} {m : Nat} (hG : G.Ok m) {s s' t : Int × Int} (hs : inW m s) (hs' : inW m s') (h : stW G s = some t) (h' : stW G s' = some t) : s = s' := by
 obtain ⟨_, p1, e1, f1⟩ := stW_in hG hs h
 obtain ⟨_, p2, e2, f2⟩ := stW_in hG hs' h'
 rw [e1] at e2
 have e : s.1 = s'.1 := Option.some.inj e2
 rw [f1, e] at f2
 exact Prod.ext e (hG.tt _ _ _ hs.2.2.1 hs.2.2.2 hs'.2.2.1 hs'.2.2.2 f2)
theorem chain_in {G : Way} {m : Nat} (hG : G.Ok m) {s : Int × Int} (hs : inW m s) : ∀ i t, chain G s i = some t -> inW m t
 | 0, t, h => by
  obtain rfl := Option.some.inj h
  exact hs
 | i + 1, t, h => by
  obtain ⟨u, hu, h⟩ := Option.bind_eq_some_iff.1 h
  exact (stW_in hG (chain_in hG hs i u hu) h).1
theorem chain_le {G : Way} {s : Int × Int} : ∀ {i j : Nat}, i <= j -> (chain G s j).isSome -> (chain G s i).isSome
 | i, 0, h, hj => by
  obtain rfl : i = 0 := by omega
  exact hj
 | i, j + 1, h, hj => by
  by_cases e : i = j + 1
  ·rw [e]
   exact hj
  ·refine chain_le (j := j) (by omega) ?_
   cases h' : chain G s j with
   | none => rw [show chain G s (j + 1) = (chain G s j).bind (stW G) from rfl, h'] at hj; cases hj
   | some x => rfl
theorem chain_new {G : Way} {m : Nat} (hG : G.Ok m) {s : Int × Int} (hs : inW m s) (hf : fresh G s) : ∀ (p q : Nat) (t : Int × Int), p < q -> chain G s p = some t -> chain G s q = some t -> False
 | 0, q, t, hq, h0, h1 => by
  obtain rfl := Option.some.inj h0
  obtain ⟨q, rfl⟩ : ∃ r, q = r + 1 := ⟨q - 1, by omega⟩
  obtain ⟨u, hu, h⟩ := Option.bind_eq_some_iff.1 h1
  obtain ⟨_, hp, e, _⟩ := stW_in hG (chain_in hG hs q u hu) h
  exact hf _ e (plain_snd (d' := 0) (show plain G (u.1, u.2) from hp))
 | p + 1, q, t, hq, h0, h1 => by
  obtain ⟨q, rfl⟩ : ∃ r, q = r + 1 := ⟨q - 1, by omega⟩
  obtain ⟨u, hu, h⟩ := Option.bind_eq_some_iff.1 h0
  obtain ⟨v, hv, h'⟩ := Option.bind_eq_some_iff.1 h1
  have := stW_inj hG (chain_in hG hs p u hu) (chain_in hG hs q v hv) h h'
  rw [<- this] at hv
  exact chain_new hG hs hf p q u (by omega) hu hv
theorem pigeon : ∀ (N : Nat) (g : Nat -> Nat), (∀ i, i <= N -> g i < N) -> ∃ p q, p < q ∧ q <= N ∧ g p = g q
 | 0, g, h => absurd (h 0 (Nat.le_refl 0)) (by omega)
 | N + 1, g, h => by
  by_cases hx : ∃ p, p < N + 1 ∧ g p = g (N + 1)
  ·obtain ⟨p, hp, e⟩ := hx
   exact ⟨p, N + 1, hp, Nat.le_refl _, e⟩
  ·have hne : ∀ p, p < N + 1 -> g p ≠ g (N + 1) := fun p hp e => hx ⟨p, hp, e⟩
   obtain ⟨p, q, h1, h2, h3⟩ := pigeon N (fun i => if g i < g (N + 1) then g i else g i - 1) (by
    intro i hi
    have a := h i (by omega)
    have b := h (N + 1) (Nat.le_refl _)
    have c := hne i (by omega)
    show (if g i < g (N + 1) then g i else g i - 1) < N
    by_cases x : g i < g (N + 1)
    ·rw [if_pos x]; omega
    ·rw [if_neg x]; omega)
   refine ⟨p, q, h1, by omega, ?_⟩
   have c1 := hne p (by omega)
   have c2 := hne q (by omega)
   replace h3 : (if g p < g (N + 1) then g p else g p - 1) = (if g q < g (N + 1) then g q else g q - 1) := h3
   by_cases x : g p < g (N + 1) <;> by_cases y : g q < g (N + 1)
   ·rw [if_pos x, if_pos y] at h3; exact h3
   ·rw [if_pos x, if_neg y] at h3; omega
   ·rw [if_neg x, if_pos y] at h3; omega
   ·rw [if_neg x, if_neg y] at h3; omega
theorem chain_ends {G : Way} {m : Nat} (hG : G.Ok m) {s : Int × Int} (hs : inW m s) (hf : fresh G s) : chain G s (4 * m) = none := by
 cases h : chain G s (4 * m) with
 | none => rfl
 | some t =>
  exfalso
  have hsome : ∀ i, i <= 4 * m -> ∃ u, chain G s i = some u := fun i hi => Option.isSome_iff_exists.1 (chain_le hi (by rw [h]; rfl))
  obtain ⟨p, q, h1, h2, h3⟩ := pigeon (4 * m) (fun i => match chain G s i with | some u => (u.1 * 4 + u.2).toNat | none => 0) (by
   intro i hi
   obtain ⟨u, hu⟩ := hsome i hi
   obtain ⟨a, b, c, d⟩ := chain_in hG hs i u hu
   simp only [hu]
   omega)
  obtain ⟨u, hu⟩ := hsome p (by omega)
  obtain ⟨v, hv⟩ := hsome q h2
  simp only [hu, hv] at h3
  obtain ⟨a, b, c, d⟩ := chain_in hG hs p u hu
  obtain ⟨a', b', c', d'⟩ := chain_in hG hs q v hv
  have e : u = v := Prod.ext (by omega) (by omega)
  rw [<- e] at hv
  exact chain_new hG hs hf p q u h1 hu hv
def costT (m : Nat) : Nat -> Nat
 | 0 => 0
 | j + 1 => 4 * m + 2 * costT m j
theorem halfT {w : Int} (h : 0 <= w) : 0 <= Int.tdiv w 2 ∧ Int.tdiv w 2 * 2 <= w ∧ w <= Int.tdiv w 2 * 2 + 1 := by
 rw [Int.tdiv_eq_ediv_of_nonneg h]
 omega
theorem spread_plain {k w : Int} (h : k = 0 ∨ k = 2 ∨ k = 3) : (Yf k w = ⟨w, 0, 0, 0⟩ ∧ k = 0) ∨ (Yf k w = ⟨0, w, 0, 0⟩ ∧ (k = 2 ∨ k = 3)) := by
 rcases h with rfl | rfl | rfl
 ·exact .inl ⟨rfl, rfl⟩
 ·exact .inr ⟨rfl, .inl rfl⟩
 ·exact .inr ⟨rfl, .inr rfl⟩
theorem come_plain {G : Way} {m : Nat} (hG : G.Ok m) (k : Nat) {a d w : Int} (hd : 0 <= d) (hd3 : d < 4) (hw : 0 < w) (hp : plain G (a, d)) :
  come G (k + 1) a d w = (leaveW G (come G k) a (G.tn (G.kd a) d) w).bind fun q => some (⟨a, d, w⟩ :: q.1, q.2) := by
 have e1 : endL (stopK (G.kd a)) a 0 = [] := rfl
 have e2 : endL 3 a 0 = [] := rfl
 have e3 : ∀ x, leaveW G (come G k) a x 0 = some ([], []) := fun x => if_pos rfl
 rcases spread_plain (k := G.kd a) (w := w) hp with ⟨e, h0⟩ | ⟨e, _⟩
 ·have ht : G.tn (G.kd a) d = d := hG.t0 _ d hd hd3 (by rw [h0]; omega)
  simp only [come, e, e1, e2, e3, Option.bind_some, ht, List.nil_append, List.append_nil]
 ·simp only [come, e, e1, e2, e3, Option.bind_some, List.nil_append]
theorem fresh_next {G : Way} {m : Nat} (hG : G.Ok m) {a d d' b : Int} (ha : 0 <= a) (ham : a < (m : Int)) (hd : 0 <= d) (hd3 : d < 4) (hb : G.nx a d = some b) (hp : ¬ plain G (a, d')) : inW m (b, d) ∧ fresh G (b, d) := by
 obtain ⟨b0, b1⟩ := hG.nin a d b ha ham hd hd3 hb
 refine ⟨⟨b0, b1, hd, hd3⟩, ?_⟩
 intro x hx
 rw [show ((b, d) : Int × Int).1 = b from rfl, show ((b, d) : Int × Int).2 = d from rfl, hG.back a d b ha ham hd hd3 hb] at hx
 obtain rfl := Option.some.inj hx
 exact hp
theorem come_some {G : Way} {m : Nat} (hG : G.Ok m) : ∀ (j : Nat) (w : Int), 0 < w -> w < 2 ^ j -> ∀ (s : Int × Int), inW m s -> fresh G s -> ∀ k, (4 * m + 1) * j < k -> ∃ vs es, come G k s.1 s.2 w = some (vs, es) ∧ vs.length <= costT m j
 | 0, w, h0, h1, s, hs, hf, k, hk => absurd h1 (by simp; omega)
 | j + 1, w, h0, h1, s, hs, hf, k, hk => by
  have ih := come_some hG j
  have e2 : (2 : Int) ^ (j + 1) = 2 * 2 ^ j := by rw [Int.pow_succ]; omega
  rw [e2] at h1
  generalize (2 : Int) ^ j = P at h1 ih
  have main : ∀ (r i : Nat) (t : Int × Int), i + r = 4 * m -> chain G s i = some t -> ∀ k, r + (4 * m + 1) * j < k -> ∃ vs es, come G k t.1 t.2 w = some (vs, es) ∧ vs.length <= r + 2 * costT m j := by
   intro r
   induction r with
   | zero =>
    intro i t hi ht
    rw [show i = 4 * m by omega, chain_ends hG hs hf] at ht
    cases ht
   | succ r ihr =>
    intro i t hi ht k hk
    obtain ⟨k, rfl⟩ : ∃ q, k = q + 1 := ⟨k - 1, by omega⟩
    obtain ⟨h2, h3, h4, h5⟩ := chain_in hG hs i t ht
    obtain ⟨a, d⟩ := t
    simp only at h2 h3 h4 h5 ⊢
    by_cases hp : plain G (a, d)
    ·rw [come_plain hG k h4 h5 h0 hp]
     unfold leaveW
     rw [if_neg (by omega)]
     cases hb : G.nx a (G.tn (G.kd a) d) with
     | none => exact ⟨_, _, rfl, by simp; omega⟩
     | some b =>
      have hst : chain G s (i + 1) = some (b, G.tn (G.kd a) d) := by
       show (chain G s i).bind (stW G) = _
       rw [ht]
       show stW G (a, d) = _
       unfold stW
       rw [if_pos hp]
       show (G.nx a (G.tn (G.kd a) d)).map _ = _
       rw [hb]
       rfl
      obtain ⟨vs, es, e, hl⟩ := ihr (i + 1) _ (by omega) hst k (by omega)
      simp only at e ⊢
      rw [e]
      exact ⟨_, _, rfl, by simp; omega⟩
    ·have half : ∀ d' w', 0 <= d' -> d' < 4 -> 0 <= w' -> w' < P -> ∃ vs es, leaveW G (come G k) a d' w' = some (vs, es) ∧ vs.length <= costT m j := by
      intro d' w' hd hd3 hw hw3
      unfold leaveW
      by_cases hz : w' = 0
      ·rw [if_pos hz]
       exact ⟨_, _, rfl, by simp⟩
      ·rw [if_neg hz]
       cases hb : G.nx a d' with
       | none => exact ⟨_, _, rfl, by simp⟩
       | some b =>
        obtain ⟨q1, q2⟩ := fresh_next hG h2 h3 hd hd3 hb hp
        exact ih w' (by omega) hw3 (b, d') q1 q2 k (by omega)
     obtain ⟨t0, t1⟩ := hG.tin (G.kd a) d h4 h5
     obtain ⟨x0, x1, x2⟩ := halfT (Int.le_of_lt h0)
     have hsp : (0 <= (Yf (G.kd a) w).pass ∧ (Yf (G.kd a) w).pass < P) ∧ (0 <= (Yf (G.kd a) w).turn ∧ (Yf (G.kd a) w).turn < P) := by
      have hp' : ¬ (G.kd a = 0 ∨ G.kd a = 2 ∨ G.kd a = 3) := hp
      unfold Yf
      rw [if_neg (fun x => hp' (.inl x))]
      by_cases c1 : G.kd a = 1 ∨ G.kd a = 7
      ·rw [if_pos c1]
       simp only
       omega
      ·rw [if_neg c1, if_neg (fun x => hp' (.inr x))]
       by_cases c2 : G.kd a = 4 ∨ G.kd a = 5
       ·rw [if_pos c2]
        simp only
        omega
       ·rw [if_neg c2]
        simp only
        omega
     obtain ⟨v1, s1, f1, l1⟩ := half d _ h4 h5 hsp.1.1 hsp.1.2
     obtain ⟨v2, s2, f2, l2⟩ := half _ _ t0 t1 hsp.2.1 hsp.2.2
     simp only [come, f1, f2, Option.bind_some]
     exact ⟨_, _, rfl, by simp; omega⟩
  have hk' : 4 * m + (4 * m + 1) * j < k := by
   have : (4 * m + 1) * (j + 1) = (4 * m + 1) * j + (4 * m + 1) := Nat.mul_succ _ _
   omega
  obtain ⟨vs, es, e, hl⟩ := main (4 * m) 0 s (by omega) rfl k hk'
  exact ⟨vs, es, e, by simpa [costT] using hl⟩
def sumW : List TE -> Int
 | [] => 0
 | e :: l => e.f2 + sumW l
theorem sumW_append (x y : List TE) : sumW (x ++ y) = sumW x + sumW y := by
 induction x with
 | nil => simp [sumW]
 | cons e l ih => simp [sumW, ih]; omega
theorem spread_sum {k w : Int} (hw : 0 <= w) : (Yf k w).pass + (Yf k w).turn + (Yf k w).lost + (Yf k w).stop = w ∧ 0 <= (Yf k w).pass ∧ 0 <= (Yf k w).turn ∧ 0 <= (Yf k w).lost ∧ 0 <= (Yf k w).stop ∧ (Yf k w).pass <= w ∧ (Yf k w).turn <= w := by
 obtain ⟨x0, x1, x2⟩ := halfT hw
 unfold Yf
 repeat' split
 all_goals (simp only; omega)
theorem sumW_endL (k a w : Int) (hw : 0 <= w) : sumW (endL k a w) = w := by
 unfold endL
 split
 ·simp [sumW]
 ·simp [sumW]; omega
theorem endL_pos (k a w : Int) : ∀ e ∈ endL k a w, 1 <= e.f2 := by
 unfold endL
 split
 ·intro e he
  obtain rfl := List.mem_singleton.1 he
  show (1 : Int) <= w
  omega
 ·intro e he
  cases he
theorem come_sum {G : Way} : ∀ (k : Nat) (a d w : Int) (vs : List TV) (es : List TE), 0 <= w -> come G k a d w = some (vs, es) -> sumW es = w ∧ (∀ e ∈ es, 1 <= e.f2)
 | 0, a, d, w, vs, es, hw, h => by cases h
 | k + 1, a, d, w, vs, es, hw, h => by
  obtain ⟨hs, hp, ht, hl, hq, _, _⟩ := spread_sum (k := G.kd a) hw
  have ih := come_sum (G := G) k
  have lv : ∀ d' w' v s, 0 <= w' -> leaveW G (come G k) a d' w' = some (v, s) -> sumW s = w' ∧ (∀ e ∈ s, 1 <= e.f2) := by
   intro d' w' v s hw' hx
   unfold leaveW at hx
   by_cases hz : w' = 0
   ·rw [if_pos hz] at hx
    obtain ⟨rfl, rfl⟩ := Prod.mk.inj (Option.some.inj hx)
    exact ⟨by rw [hz]; rfl, fun e he => by cases he⟩
   ·rw [if_neg hz] at hx
    cases hb : G.nx a d' with
    | none =>
     rw [hb] at hx
     obtain ⟨rfl, rfl⟩ := Prod.mk.inj (Option.some.inj hx)
     exact ⟨sumW_endL _ _ _ hw', endL_pos _ _ _⟩
    | some b =>
     rw [hb] at hx
     exact ih b d' w' v s hw' hx
  simp only [come] at h
  obtain ⟨⟨v1, s1⟩, f1, h⟩ := Option.bind_eq_some_iff.1 h
  obtain ⟨⟨v2, s2⟩, f2, h⟩ := Option.bind_eq_some_iff.1 h
  obtain ⟨rfl, rfl⟩ := Prod.mk.inj (Option.some.inj h)
  obtain ⟨a1, b1⟩ := lv _ _ _ _ hp f1
  obtain ⟨a2, b2⟩ := lv _ _ _ _ ht f2
  constructor
  ·simp only [sumW_append, sumW_endL _ _ _ hl, sumW_endL _ _ _ hq, a1, a2]
   omega
  ·intro e he
   simp only [List.mem_append] at he
   rcases he with he | he | he | he
   ·exact endL_pos _ _ _ e he
   ·exact endL_pos _ _ _ e he
   ·exact b1 e he
   ·exact b2 e he
theorem sumW_len : ∀ (es : List TE), (∀ e ∈ es, 1 <= e.f2) -> (es.length : Int) <= sumW es
 | [], _ => by simp [sumW]
 | e :: l, h => by
  have h1 := h e (by simp)
  have h2 := sumW_len l (fun x hx => h x (by simp [hx]))
  simp only [List.length_cons, sumW]
  omega
end Go.Proofs.Yteapnipnoadejaa.P
namespace Go.Proofs.Yteapnipnoadejaa.P
open Go.RowKit Go.Proofs.YteapnipnoadejaaW
set_option linter.unusedVariables false
set_option linter.unusedSimpArgs false
theorem rowcol {n : Int} {m : Nat} (h : Xz n m = true) (a : Int) (ha : 0 <= a) (hal : a < (m : Int)) :
  ∃ q p r : Int, a / n = q ∧ a % n = p ∧ (m : Int) / n = r ∧ a = n * q + p ∧ (m : Int) = n * r ∧ 0 <= p ∧ p < n ∧ 0 <= q ∧ q < r ∧ r <= 5 := by
 have h1 := Xg h
 have h2 := Xi h
 refine ⟨a / n, a % n, (m : Int) / n, rfl, rfl, rfl, ?_, h2.2.2.symm, Int.emod_nonneg a (by omega), Int.emod_lt_of_pos a (by omega), Int.ediv_nonneg ha (by omega), ?_, h2.2.1⟩
 ·have := Int.mul_ediv_add_emod a n
  omega
 ·exact Int.ediv_lt_of_lt_mul (by omega) (by rw [Int.mul_comm]; omega)
set_option maxHeartbeats 1000000 in
theorem spec_l2Next_some {n : Int} {l : List S42} (h : Xz n l.length = true) (a d : Int) (ha : 0 <= a) (hal : a < (l.length : Int)) (hd : 0 <= d) (hd3 : d <= 3) (k : Nat) (hk : 0 < k) :
  Wv.f k n l a d = some (stepOf n l.length a d) := by
 obtain ⟨k, rfl⟩ : ∃ m, k = m + 1 := ⟨k - 1, by omega⟩
 have h1 := Xg h
 obtain ⟨q, p, r, eq, ep, er, ea, em, hp0, hpn, hq0, hqr, hr5⟩ := rowcol h a ha hal
 have hn : n = 1 ∨ n = 2 ∨ n = 3 ∨ n = 4 ∨ n = 5 := by omega
 have hd4 : d = 0 ∨ d = 1 ∨ d = 2 ∨ d = 3 := by omega
 unfold Wv.f
 rw [if_neg (show ¬ n = 0 by omega), spec_l1High_some h, Int.tdiv_eq_ediv_of_nonneg ha, Int.tmod_eq_emod_of_nonneg ha]
 unfold stepOf
 rw [eq, ep, er]
 simp only [Option.bind_some, l6In_some, Wv.j0]
 clear h h1 eq ep er
 rcases hd4 with rfl | rfl | rfl | rfl
 ·have e1 : rd [-1, 0, 1, 0] 0 = -1 := by decide
  have e2 : rd [0, 1, 0, -1] 0 = 0 := by decide
  simp only [e1, e2, List.length_cons, List.length_nil]
  have c1 : (decide (0 <= wrap64 (wrap64 q + -1)) && decide (wrap64 (wrap64 q + -1) <= wrap64 (r - 1))) = decide (n <= a) := by
   rw [Bool.eq_iff_iff]
   simp (disch := omega) only [w64]
   rcases hn with rfl | rfl | rfl | rfl | rfl <;> simp <;> omega
  have c2 : (decide (0 <= wrap64 (p + 0)) && decide (wrap64 (p + 0) <= wrap64 (n - 1))) = true := by
   simp (disch := omega) only [w64]
   simp
   omega
  rw [c1, c2]
  by_cases hc : n <= a
  ·have e3 : wrap64 (wrap64 (wrap64 (wrap64 q + -1) * n) + wrap64 (p + 0)) = a - n := by
    rcases hn with rfl | rfl | rfl | rfl | rfl <;> simp (disch := omega) only [w64] <;> omega
   rw [e3]
   simp [hc]
  ·simp [hc]
 ·have e1 : rd [-1, 0, 1, 0] 1 = 0 := by decide
  have e2 : rd [0, 1, 0, -1] 1 = 1 := by decide
  simp only [e1, e2, List.length_cons, List.length_nil]
  have c1 : (decide (0 <= wrap64 (wrap64 q + 0)) && decide (wrap64 (wrap64 q + 0) <= wrap64 (r - 1))) = true := by
   simp (disch := omega) only [w64]
   simp
   omega
  have c2 : (decide (0 <= wrap64 (p + 1)) && decide (wrap64 (p + 1) <= wrap64 (n - 1))) = decide (p ≠ n - 1) := by
   rw [Bool.eq_iff_iff]
   simp (disch := omega) only [w64]
   simp
   omega
  rw [c1, c2]
  by_cases hc : p ≠ n - 1
  ·have e3 : wrap64 (wrap64 (wrap64 (wrap64 q + 0) * n) + wrap64 (p + 1)) = a + 1 := by
    rcases hn with rfl | rfl | rfl | rfl | rfl <;> simp (disch := omega) only [w64] <;> omega
   rw [e3]
   simp [hc]
  ·simp [hc]
 ·have e1 : rd [-1, 0, 1, 0] 2 = 1 := by decide
  have e2 : rd [0, 1, 0, -1] 2 = 0 := by decide
  simp only [e1, e2, List.length_cons, List.length_nil]
  have c1 : (decide (0 <= wrap64 (wrap64 q + 1)) && decide (wrap64 (wrap64 q + 1) <= wrap64 (r - 1))) = decide (a + n < (l.length : Int)) := by
   rw [Bool.eq_iff_iff]
   simp (disch := omega) only [w64]
   rcases hn with rfl | rfl | rfl | rfl | rfl <;> simp <;> omega
  have c2 : (decide (0 <= wrap64 (p + 0)) && decide (wrap64 (p + 0) <= wrap64 (n - 1))) = true := by
   simp (disch := omega) only [w64]
   simp
   omega
  rw [c1, c2]
  by_cases hc : a + n < (l.length : Int)
  ·have e3 : wrap64 (wrap64 (wrap64 (wrap64 q + 1) * n) + wrap64 (p + 0)) = a + n := by
    rcases hn with rfl | rfl | rfl | rfl | rfl <;> simp (disch := omega) only [w64] <;> omega
   rw [e3]
   simp [hc]
  ·simp [hc]
 ·have e1 : rd [-1, 0, 1, 0] 3 = 0 := by decide
  have e2 : rd [0, 1, 0, -1] 3 = -1 := by decide
  simp only [e1, e2, List.length_cons, List.length_nil]
  have c1 : (decide (0 <= wrap64 (wrap64 q + 0)) && decide (wrap64 (wrap64 q + 0) <= wrap64 (r - 1))) = true := by
   simp (disch := omega) only [w64]
   simp
   omega
  have c2 : (decide (0 <= wrap64 (p + -1)) && decide (wrap64 (p + -1) <= wrap64 (n - 1))) = decide (p ≠ 0) := by
   rw [Bool.eq_iff_iff]
   simp (disch := omega) only [w64]
   simp
   omega
  rw [c1, c2]
  by_cases hc : p ≠ 0
  ·have e3 : wrap64 (wrap64 (wrap64 (wrap64 q + 0) * n) + wrap64 (p + -1)) = a - 1 := by
    rcases hn with rfl | rfl | rfl | rfl | rfl <;> simp (disch := omega) only [w64] <;> omega
   rw [e3]
   simp [hc]
  ·simp [hc]
theorem shapeB_25 {n : Int} {m : Nat} (h : Xz n m = true) : m <= 25 := by
 have := Xg h
 omega
theorem impl_rayStep_some {n : Int} {l : List S42} (h : Xz n l.length = true) (a d : Int) (ha : 0 <= a) (hal : a < (l.length : Int)) (hd : 0 <= d) (hd3 : d <= 3) : Yv.f n l a d = some (stepOf n l.length a d) := by
 have := Xg h
 have := shapeB_25 h
 unfold Yv.f stepIn
 rw [if_pos (by simp; omega)]
def rayNext (n : Int) (l : List S42) (a d : Int) : Int × Int × Bool :=
 if Yo n l = true ∧ 0 <= a ∧ a < (l.length : Int) ∧ 0 <= d ∧ d <= 3 then stepOf n l.length a d else (0, 0, false)
theorem impl_RayNext_some (n : Int) (l : List S42) (a d : Int) (hl : l.length <= 1099511627776) (k : Nat) (hk : l.length + 4 < k) : Ww.f k n l a d = some (rayNext n l a d) := by
 obtain ⟨k, rfl⟩ : ∃ m, k = m + 1 := ⟨k - 1, by omega⟩
 unfold Ww.f rayNext
 rw [impl_GridOk_some n l hl (k + 1) (by omega), Option.bind_some]
 have ed : Yw.f d = some (decide (0 <= d) && decide (d <= 3)) := by
  unfold Yw.f
  by_cases h : d >= 0
  ·rw [if_pos h]
   simp [h]
  ·rw [if_neg h]
   simp [h]
 have J : Ww.j0 (k + 1) a d true n l = some (0, 0, false) := by
  rw [Ww.j0, if_pos rfl]
 by_cases h : Yo n l = true
 ·rw [if_pos h]
  by_cases ha : a < 0
  ·rw [if_pos ha, J, if_neg (fun h => by omega)]
  ·rw [if_neg ha]
   by_cases hal : a >= (l.length : Int)
   ·rw [if_pos hal, J, if_neg (fun h => by omega)]
   ·rw [if_neg hal, ed, Option.bind_some]
    by_cases hd : 0 <= d ∧ d <= 3
    ·have e2 : (decide (0 <= d) && decide (d <= 3)) = true := by simp; omega
     rw [e2, Bool.not_true, Ww.j0, if_neg (by decide), impl_rayStep_some (shape_of h).1 a d (by omega) (by omega) hd.1 hd.2, Option.bind_some, if_pos ⟨h, by omega, by omega, hd.1, hd.2⟩]
    ·have e2 : (decide (0 <= d) && decide (d <= 3)) = false := by simp; omega
     rw [e2, Bool.not_false, J, if_neg (fun h => hd h.2.2.2)]
 ·rw [if_neg h, J, if_neg (show ¬ (Yo n l = true ∧ 0 <= a ∧ a < (l.length : Int) ∧ 0 <= d ∧ d <= 3) from fun h' => h h'.1)]
end Go.Proofs.Yteapnipnoadejaa.P
namespace Go.Proofs.Yteapnipnoadejaa.P
open Go.RowKit Go.Proofs.YteapnipnoadejaaW
set_option linter.unusedVariables false
set_option linter.unusedSimpArgs false
def Yi (n m k : Int) : Int × Int :=
 if k < n then (k, 2) else if k - n < m / n then ((k - n) * n + n - 1, 3) else if k - n - m / n < n then (m - 1 - (k - n - m / n), 0) else (m - n - (k - n - m / n - n) * n, 1)
set_option maxHeartbeats 1000000 in
theorem spec_l3Ray_some {n : Int} {l : List S42} (h : Xz n l.length = true) (k : Int) (hk : 0 <= k) (hk2 : k < Xk n l.length) : Xm.f n l k = some (Yi n l.length k) := by
 have h1 := Xg h
 have h2 := Xi h
 have hn : n = 1 ∨ n = 2 ∨ n = 3 ∨ n = 4 ∨ n = 5 := by omega
 unfold Xm.f Yi
 unfold Xk at hk2
 rw [spec_l1High_some h]
 simp only [Option.bind_some]
 generalize (l.length : Int) / n = r at *
 have em : (l.length : Int) = n * r := h2.2.2.symm
 rw [em]
 clear h em
 by_cases c1 : k < n
 ·rw [if_pos c1, if_pos c1]
 rw [if_neg c1, if_neg c1, w64 (k - n) (by omega) (by omega)]
 by_cases c2 : k - n < r
 ·rw [if_pos c2, if_pos c2]
  congr 2
  rcases hn with rfl | rfl | rfl | rfl | rfl <;> simp (disch := omega) only [w64]
 rw [if_neg c2, if_neg c2, w64 (k - n - r) (by omega) (by omega)]
 by_cases c3 : k - n - r < n
 ·rw [if_pos c3, if_pos c3]
  congr 2
  rcases hn with rfl | rfl | rfl | rfl | rfl <;> simp (disch := omega) only [w64]
 rw [if_neg c3, if_neg c3]
 congr 2
 rcases hn with rfl | rfl | rfl | rfl | rfl <;> simp (disch := omega) only [w64] <;> omega
def raysOk (n r : Int) : Bool := match Wt.l0 60 n r [] n 0 with
 | some L => decide ((L.length : Int) = 2 * (n + r)) && (List.range L.length).all fun k => decide ((rd_T44 L (k : Int)).f0 = (Yi n (n * r) k).1) && decide ((rd_T44 L (k : Int)).f1 = (Yi n (n * r) k).2)
 | none => false
set_option maxRecDepth 100000 in
theorem raysOk_all : ([1, 2, 3, 4, 5] : List Int).all (fun n => ([1, 2, 3, 4, 5] : List Int).all fun r => raysOk n r) = true := by decide +kernel
theorem rays_of {n r : Int} (hn : 1 <= n) (hn5 : n <= 5) (hr : 1 <= r) (hr5 : r <= 5) :
  ∃ L, Wt.l0 60 n r [] n 0 = some L ∧ (L.length : Int) = 2 * (n + r) ∧ ∀ k : Nat, k < L.length -> (rd_T44 L (k : Int)).f0 = (Yi n (n * r) k).1 ∧ (rd_T44 L (k : Int)).f1 = (Yi n (n * r) k).2 := by
 have h := raysOk_all
 rw [List.all_eq_true] at h
 have h1 := h n (by
  have : n = 1 ∨ n = 2 ∨ n = 3 ∨ n = 4 ∨ n = 5 := by omega
  simpa using this)
 rw [List.all_eq_true] at h1
 have h2 := h1 r (by
  have : r = 1 ∨ r = 2 ∨ r = 3 ∨ r = 4 ∨ r = 5 := by omega
  simpa using this)
 unfold raysOk at h2
 cases e : Wt.l0 60 n r [] n 0 with
 | none =>
  rw [e] at h2
  simp at h2
 | some L =>
  rw [e] at h2
  simp only [Bool.and_eq_true, decide_eq_true_eq, List.all_eq_true, List.mem_range] at h2
  exact ⟨L, rfl, h2.1, h2.2⟩
theorem leo_ite {α : Type} {c : Prop} [Decidable c] {a b a' b' : Option α} (h : LeO a a') (k : LeO b b') : LeO (if c then a else b) (if c then a' else b') := by
 split
 ·exact h
 ·exact k
theorem ray_mono : ∀ k, (∀ y0 y1 y2 y3 y4, LeO (Wt.l0 k y0 y1 y2 y3 y4) (Wt.l0 (k + 1) y0 y1 y2 y3 y4)) ∧ (∀ y0 y1 y2 y3 y4, LeO (Wt.l1 k y0 y1 y2 y3 y4) (Wt.l1 (k + 1) y0 y1 y2 y3 y4)) ∧ (∀ y0 y1 y2 y3 y4, LeO (Wt.l2 k y0 y1 y2 y3 y4) (Wt.l2 (k + 1) y0 y1 y2 y3 y4)) ∧ (∀ y0 y1 y2 y3 y4, LeO (Wt.l3 k y0 y1 y2 y3 y4) (Wt.l3 (k + 1) y0 y1 y2 y3 y4))
 | 0 => ⟨fun _ _ _ _ _ r h => by simp [Wt.l0] at h, fun _ _ _ _ _ r h => by simp [Wt.l1] at h, fun _ _ _ _ _ r h => by simp [Wt.l2] at h, fun _ _ _ _ _ r h => by simp [Wt.l3] at h⟩
 | k + 1 => by
  obtain ⟨ih0, ih1, ih2, ih3⟩ := ray_mono k
  refine ⟨?_, ?_, ?_, ?_⟩ <;> intro y0 y1 y2 y3 y4 <;> first | unfold Wt.l0 | unfold Wt.l1 | unfold Wt.l2 | unfold Wt.l3
  all_goals repeat' first | (with_reducible first | exact ih0 _ _ _ _ _ | exact ih1 _ _ _ _ _ | exact ih2 _ _ _ _ _ | exact ih3 _ _ _ _ _ | exact LeO.refl _ | exact LeO.none _ | refine leo_ite ?_ ?_ | refine LeO.bind ?_ (fun _ => ?_))
theorem impl_Ray_some {n : Int} {l : List S42} (h : Xz n l.length = true) (k : Nat) (hk : 60 <= k) :
  ∃ L, Wt.f k n l = some L ∧ (L.length : Int) = Xk n l.length ∧ ∀ k : Nat, k < L.length -> (rd_T44 L (k : Int)).f0 = (Yi n l.length k).1 ∧ (rd_T44 L (k : Int)).f1 = (Yi n l.length k).2 := by
 have h1 := Xg h
 have h2 := Xi h
 obtain ⟨L, e, hL, hr⟩ := rays_of h1.1 h1.2.1 h2.1 h2.2.1
 rw [h2.2.2] at hr
 refine ⟨L, ?_, hL, hr⟩
 unfold Wt.f
 rw [impl_gridRows_some h]
 simp only [Option.bind_some]
 rw [w64 (n + _) (by omega) (by omega), w64 (2 * _) (by omega) (by omega), if_pos (by omega), if_pos (by omega)]
 exact at_rounds (fun k => (ray_mono k).1 _ _ _ _ _) hk e
def sightRay (n : Int) (l : List S42) (k : Int) : Int × Int × Bool :=
 if Yo n l = true ∧ 0 <= k ∧ k < Xk n l.length then ((Yi n l.length k).1, (Yi n l.length k).2, true) else (0, 0, false)
theorem impl_SightRay_some (n : Int) (l : List S42) (a : Int) (hl : l.length <= 1099511627776) (k : Nat) (hk : l.length + 60 < k) : Xh.f k n l a = some (sightRay n l a) := by
 unfold Xh.f sightRay
 by_cases h0 : a < 0
 ·rw [if_pos h0, if_neg (fun h => by omega)]
 ·rw [if_neg h0, impl_SightMany_some n l hl k (by omega)]
  simp only [Option.bind_some]
  unfold sightMany
  by_cases h : Yo n l = true
  ·rw [if_pos h]
   by_cases ha : a >= Xk n l.length
   ·rw [if_pos ha, if_neg (fun h => by omega)]
   ·obtain ⟨L, e, hL, hr⟩ := impl_Ray_some (shape_of h).1 k (by omega)
    obtain ⟨b, rfl⟩ := Int.eq_ofNat_of_zero_le (show 0 <= a by omega)
    rw [if_neg ha, e]
    simp only [Option.bind_some]
    rw [if_pos (by omega), if_pos (by omega), if_pos ⟨h, by omega, by omega⟩, (hr b (by omega)).1, (hr b (by omega)).2]
  ·rw [if_neg h, if_pos (by omega), if_neg (fun h' => h h'.1)]
end Go.Proofs.Yteapnipnoadejaa.P
namespace Go.Proofs.Yteapnipnoadejaa.P
open Go.RowKit Go.Proofs.YteapnipnoadejaaW
set_option linter.unusedVariables false
set_option linter.unusedSimpArgs false
theorem shape_ij {n : Int} {m : Nat} (h : Xz n m = true) : ∃ i j : Nat, i < 5 ∧ j < 5 ∧ n = ((i + 1 : Nat) : Int) ∧ m = (i + 1) * (j + 1) := by
 have h1 := Xg h
 obtain ⟨h2, h3, h4⟩ := Xi h
 obtain ⟨i, hi⟩ := Int.eq_ofNat_of_zero_le (show 0 <= n - 1 by omega)
 obtain ⟨j, hj⟩ := Int.eq_ofNat_of_zero_le (show 0 <= (m : Int) / n - 1 by omega)
 have e1 : n = ((i + 1 : Nat) : Int) := by omega
 have e2 : (m : Int) / n = ((j + 1 : Nat) : Int) := by omega
 refine ⟨i, j, by omega, by omega, e1, ?_⟩
 rw [e2, e1] at h4
 have h5 : (((i + 1) * (j + 1) : Nat) : Int) = (m : Int) := by rw [<- h4]; exact Int.natCast_mul _ _
 exact (Int.ofNat.inj h5).symm
theorem nat_of {x : Int} (h : 0 <= x) : ∃ a : Nat, x = (a : Int) := Int.eq_ofNat_of_zero_le h
end Go.Proofs.Yteapnipnoadejaa.P
namespace Go.Proofs.Yteapnipnoadejaa.P
open Go.RowKit Go.Proofs.YteapnipnoadejaaW
set_option linter.unusedVariables false
set_option linter.unusedSimpArgs false
def gIn (A D : Int) (x : S44) : Bool := isIn A D x.f0 x.f1
theorem told_map (A D : Int) : ∀ k, (∀ (x5 x6 : Int) (x7 : List S44) (lim i : Int) (L : List S44), Wt.l0 k x5 x6 x7 lim i = some L -> Yz.l0 A D k x5 x6 (x7.map (gIn A D)) lim i = some (L.map (gIn A D))) ∧
  (∀ (x5 x6 : Int) (x7 : List S44) (lim i : Int) (L : List S44), Wt.l1 k x5 x6 x7 lim i = some L -> Yz.l1 A D k x5 x6 (x7.map (gIn A D)) lim i = some (L.map (gIn A D))) ∧
  (∀ (x5 x6 : Int) (x7 : List S44) (lim i : Int) (L : List S44), Wt.l2 k x5 x6 x7 lim i = some L -> Yz.l2 A D k x5 x6 (x7.map (gIn A D)) lim i = some (L.map (gIn A D))) ∧
  (∀ (x5 x6 : Int) (x7 : List S44) (lim i : Int) (L : List S44), Wt.l3 k x5 x6 x7 lim i = some L -> Yz.l3 A D k x5 x6 (x7.map (gIn A D)) lim i = some (L.map (gIn A D)))
 | 0 => ⟨fun _ _ _ _ _ _ h => by simp [Wt.l0] at h, fun _ _ _ _ _ _ h => by simp [Wt.l1] at h, fun _ _ _ _ _ _ h => by simp [Wt.l2] at h, fun _ _ _ _ _ _ h => by simp [Wt.l3] at h⟩
 | k + 1 => by
  obtain ⟨i0, i1, i2, i3⟩ := told_map A D k
  refine ⟨fun x5 x6 x7 lim i L h => ?_, fun x5 x6 x7 lim i L h => ?_, fun x5 x6 x7 lim i L h => ?_, fun x5 x6 x7 lim i L h => ?_⟩
  ·simp only [Wt.l0, Yz.l0, Zy.f, tellB, Option.bind_some, List.length_map] at h ⊢
   split at h
   ·rename_i hi
    rw [if_pos hi]
    split at h
    ·rw [if_pos (by omega)]
     have := i0 _ _ _ _ _ _ h
     simpa [gIn] using this
    ·cases h
   ·rename_i hi
    rw [if_neg hi]
    exact i1 _ _ _ _ _ _ h
  ·simp only [Wt.l1, Yz.l1, Zy.f, tellB, Option.bind_some, List.length_map] at h ⊢
   split at h
   ·rename_i hi
    rw [if_pos hi]
    split at h
    ·rw [if_pos (by omega)]
     have := i1 _ _ _ _ _ _ h
     simpa [gIn] using this
    ·cases h
   ·rename_i hi
    rw [if_neg hi]
    exact i2 _ _ _ _ _ _ h
  ·simp only [Wt.l2, Yz.l2, Zy.f, tellB, Option.bind_some, List.length_map] at h ⊢
   split at h
   ·rename_i hi
    rw [if_pos hi]
    split at h
    ·rw [if_pos (by omega)]
     have := i2 _ _ _ _ _ _ h
     simpa [gIn] using this
    ·cases h
   ·rename_i hi
    rw [if_neg hi]
    exact i3 _ _ _ _ _ _ h
  ·simp only [Wt.l3, Yz.l3, Zy.f, tellB, Option.bind_some, List.length_map] at h ⊢
   split at h
   ·rename_i hi
    rw [if_pos hi]
    split at h
    ·rw [if_pos (by omega)]
     have := i3 _ _ _ _ _ _ h
     simpa [gIn] using this
    ·cases h
   ·rename_i hi
    rw [if_neg hi]
    obtain rfl := Option.some.inj h
    rfl
theorem told_of {n : Int} {l : List S42} (h : Xz n l.length = true) (A D : Int) (k : Nat) (L : List S44) (hL : Wt.f k n l = some L) : Yz.f A D k n l = some (L.map (gIn A D)) := by
 have h1 := Xg h
 have h2 := Xi h
 unfold Wt.f at hL
 unfold Yz.f
 rw [impl_gridRows_some h] at hL ⊢
 simp only [Option.bind_some] at hL ⊢
 rw [w64 (n + _) (by omega) (by omega), w64 (2 * _) (by omega) (by omega), if_pos (by omega), if_pos (by omega)] at hL ⊢
 exact (told_map A D k).1 _ _ _ _ _ _ hL
def lastOf (n m a b : Int) (s : Nat) : Int := lastT ((List.range s).map fun (k : Nat) => isIn a b (Yi n m (k : Int)).1 (Yi n m (k : Int)).2)
def sightOfB (n : Int) (m : Nat) (a d : Int) : Int := lastOf n (m : Int) a (Int.tmod (wrap64 (d + 2)) 4) (Xk n m).toNat
def firstOf (n m a d : Int) : Nat -> Nat -> Int
 | _, 0 => -1
 | k, r + 1 => if (Yi n m (k : Int)).1 = a then (if Int.tmod (wrap64 ((Yi n m (k : Int)).2 + 2)) 4 = d then (k : Int) else firstOf n m a d (k + 1) r) else firstOf n m a d (k + 1) r
theorem first_last (i j a d : Nat) (hi : i < 5) (hj : j < 5) (ha : a < (i + 1) * (j + 1)) (hd : d < 4) :
  firstOf ((i + 1 : Nat) : Int) (((i + 1) * (j + 1) : Nat) : Int) (a : Int) (d : Int) 0 (Xk ((i + 1 : Nat) : Int) ((i + 1) * (j + 1))).toNat = sightOfB ((i + 1 : Nat) : Int) ((i + 1) * (j + 1)) (a : Int) (d : Int) := by
 revert hd; revert d; revert ha; revert a; revert hj; revert j; revert hi; revert i
 decide +kernel
def sightOf (n : Int) (l : List S42) (a d : Int) : Int := if Yo n l = true ∧ 0 <= d ∧ d <= 3 then sightOfB n l.length a d else -1
theorem spec_l3Of_l0 {n : Int} {l : List S42} (h : Xz n l.length = true) (a d : Int) : ∀ (r k i : Nat), i + r = (Xk n l.length).toNat -> r < k -> Yl.l0 k a d (i : Int) n l = some (firstOf n l.length a d i r)
 | 0, k, i, hi, hk => by
  obtain ⟨k, rfl⟩ : ∃ m, k = m + 1 := ⟨k - 1, by omega⟩
  have hs := sights_in h
  simp only [Yl.l0]
  rw [spec_l3Many_some h]
  simp only [Option.bind_some]
  rw [if_neg (by omega)]
  rfl
 | r + 1, k, i, hi, hk => by
  obtain ⟨k, rfl⟩ : ∃ m, k = m + 1 := ⟨k - 1, by omega⟩
  have hs := sights_in h
  simp only [Yl.l0]
  rw [spec_l3Many_some h]
  simp only [Option.bind_some]
  rw [if_pos (by omega), spec_l3Ray_some h (i : Int) (by omega) (by omega), w64 ((i : Int) + 1) (by omega) (by omega)]
  simp only [Option.bind_some, Xy.f, firstOf]
  have ih := spec_l3Of_l0 h a d r k (i + 1) (by omega) (by omega)
  rw [show ((i + 1 : Nat) : Int) = (i : Int) + 1 from by omega] at ih
  rw [ih]
  split
  ·split <;> rfl
  ·rfl
theorem impl_SightOf_some (n : Int) (l : List S42) (a d : Int) (hl : l.length <= 1099511627776) : impl_SightOf.f n l a d = some (sightOf n l a d) := by
 unfold impl_SightOf.f sightOf
 rw [impl_GridOk_some n l hl _ (by omega)]
 simp only [Option.bind_some, Xv.f]
 have ed : Yw.f d = some (decide (0 <= d) && decide (d <= 3)) := by
  unfold Yw.f
  by_cases h : d >= 0
  ·rw [if_pos h]
   simp [h]
  ·rw [if_neg h]
   simp [h]
 rw [ed]
 by_cases h : Yo n l = true
 ·rw [if_pos h]
  simp only [Option.bind_some]
  by_cases hd : 0 <= d ∧ d <= 3
  ·have e2 : (decide (0 <= d) && decide (d <= 3)) = true := by simp; omega
   rw [e2, if_pos rfl, if_pos ⟨h, hd.1, hd.2⟩]
   obtain ⟨L, e, hL, hr⟩ := impl_Ray_some (shape_of h).1 (l.length + 100) (by omega)
   rw [told_of (shape_of h).1 _ _ _ _ e]
   simp only [Option.bind_some]
   congr 1
   unfold sightOfB lastOf
   congr 1
   refine List.ext_getElem (by simp; omega) ?_
   intro k h1 h2
   have hk : k < L.length := by simpa using h1
   have := hr k hk
   have e5 : rd_T44 L (k : Int) = L[k] := by
    unfold rd_T44
    simp [List.getD_eq_getElem?_getD, List.getElem?_eq_getElem hk]
   rw [e5] at this
   simp [gIn, this.1, this.2]
  ·have e2 : (decide (0 <= d) && decide (d <= 3)) = false := by simp; omega
   rw [e2, if_neg (by decide), if_neg (fun h => hd h.2)]
 ·rw [if_neg h, if_neg (fun h' => h h'.1)]
end Go.Proofs.Yteapnipnoadejaa.P
namespace Go.Proofs.Yteapnipnoadejaa.P
open Go.RowKit Go.Proofs.YteapnipnoadejaaW
set_option linter.unusedVariables false
set_option linter.unusedSimpArgs false
theorem spec_DirTurn_some (k : Nat) (a0 a1 : Int) : Zg.f (k + 1) a0 a1 = some (if 0 <= a1 ∧ a1 <= 3 then Ya a0 a1 else -1) := by
 unfold Zg.f Wy.f
 by_cases h0 : a1 >= 0
 ·rw [if_pos h0]
  by_cases h3 : a1 <= 3
  ·rw [if_pos (show 0 <= a1 ∧ a1 <= 3 from ⟨h0, h3⟩)]
   simp only [Option.bind_some, h3, decide_true, if_true]
   have hd : a1 = 0 ∨ a1 = 1 ∨ a1 = 2 ∨ a1 = 3 := by omega
   have x0 : Go.bits .xor .i64 0 1 = 1 := by decide
   have x1 : Go.bits .xor .i64 1 1 = 0 := by decide
   have x2 : Go.bits .xor .i64 2 1 = 3 := by decide
   have x3 : Go.bits .xor .i64 3 1 = 2 := by decide
   clear h0 h3
   by_cases k2 : a0 = 2
   ·subst k2
    rcases hd with rfl | rfl | rfl | rfl <;> simp [Zg.j0, Ya, x0, x1, x2, x3]
   rw [if_neg k2]
   by_cases k4 : a0 = 4
   ·subst k4
    rcases hd with rfl | rfl | rfl | rfl <;> simp [Zg.j0, Ya, x0, x1, x2, x3]
   by_cases k3 : a0 = 3
   ·subst k3
    rcases hd with rfl | rfl | rfl | rfl <;> simp [Zg.j0, Ya, w64]
   by_cases k5 : a0 = 5
   ·subst k5
    rcases hd with rfl | rfl | rfl | rfl <;> simp [Zg.j0, Ya, w64]
   have e4 : (a0 == 4) = false := by simpa using k4
   simp [Zg.j0, Ya, k2, k3, k4, k5, e4]
  ·simp [h3]
 ·simp [h0]
end Go.Proofs.Yteapnipnoadejaa.P
namespace Go.Proofs.Yteapnipnoadejaa.P
open Go.RowKit Go.Proofs.YteapnipnoadejaaW
set_option linter.unusedVariables false
set_option linter.unusedSimpArgs false
def okG (i j : Nat) (l : List S42) : Prop := l.length = (i + 1) * (j + 1) ∧ l.all okCell = true
theorem okG_of {n : Int} {l : List S42} (h : Yo n l = true) : ∃ i j : Nat, i < 5 ∧ j < 5 ∧ n = ((i + 1 : Nat) : Int) ∧ okG i j l := by
 obtain ⟨i, j, hi, hj, hn, hm⟩ := shape_ij (shape_of h).1
 exact ⟨i, j, hi, hj, hn, hm, (shape_of h).2⟩
theorem shapeB_all (i j : Nat) (hi : i < 5) (hj : j < 5) : Xz ((i + 1 : Nat) : Int) ((i + 1) * (j + 1)) = true := by
 revert hj; revert j; revert hi; revert i
 decide +kernel
theorem okG_shape {i j : Nat} (hi : i < 5) (hj : j < 5) {l : List S42} (h : okG i j l) : Xz ((i + 1 : Nat) : Int) l.length = true := by
 rw [h.1]
 exact shapeB_all i j hi hj
theorem okG_grid {i j : Nat} (hi : i < 5) (hj : j < 5) {l : List S42} (h : okG i j l) : Yo ((i + 1 : Nat) : Int) l = true := by
 unfold Yo
 rw [okG_shape hi hj h, h.2]
 rfl
theorem okG_25 {i j : Nat} (hi : i < 5) (hj : j < 5) {l : List S42} (h : okG i j l) : l.length <= 25 := by
 have := Nat.mul_le_mul (show i + 1 <= 5 by omega) (show j + 1 <= 5 by omega)
 rw [h.1]
 omega
def nxB (n : Int) (m : Nat) (a d : Int) : Option Int := if (stepOf n m a d).2.2 = true then some (stepOf n m a d).1 else none
def Xf (n : Int) (l : List S42) : Way where
 nx := nxB n l.length
 so := sightOfB n l.length
 kd := fun a => (Qx l a).f0
 tn := Ya
def optB (x : Option Int) (p : Int -> Bool) : Bool := match x with | none => true | some b => p b
theorem nx_all (i j : Nat) (hi : i < 5) (hj : j < 5) : ∀ a, a < (i + 1) * (j + 1) -> ∀ d : Nat, d < 4 -> optB (nxB ((i + 1 : Nat) : Int) ((i + 1) * (j + 1)) (a : Int) (d : Int)) (fun b => decide (0 <= b) && (decide (b < (((i + 1) * (j + 1) : Nat) : Int)) && (decide (b ≠ (a : Int)) && decide (nxB ((i + 1 : Nat) : Int) ((i + 1) * (j + 1)) b (((d : Int) + 2) % 4) = some (a : Int))))) = true := by
 revert hj; revert j; revert hi; revert i
 decide +kernel
theorem nx_of {i j : Nat} (hi : i < 5) (hj : j < 5) {l : List S42} (h : okG i j l) {a d b : Int} (ha : 0 <= a) (hal : a < (l.length : Int)) (hd : 0 <= d) (hd3 : d < 4) (hb : nxB ((i + 1 : Nat) : Int) l.length a d = some b) : 0 <= b ∧ b < (l.length : Int) ∧ b ≠ a ∧ nxB ((i + 1 : Nat) : Int) l.length b ((d + 2) % 4) = some a := by
 obtain ⟨a, rfl⟩ := nat_of ha
 obtain ⟨d, rfl⟩ := nat_of hd
 rw [h.1] at hal hb ⊢
 have := nx_all i j hi hj a (by omega) d (by omega)
 rw [hb] at this
 simpa [optB] using this
theorem dir_cases {d : Int} (h : 0 <= d) (h3 : d < 4) : d = 0 ∨ d = 1 ∨ d = 2 ∨ d = 3 := by omega
theorem turn_in (k d : Int) (h : 0 <= d) (h3 : d < 4) : 0 <= Ya k d ∧ Ya k d < 4 := by
 unfold Ya
 rcases dir_cases h h3 with rfl | rfl | rfl | rfl <;> (repeat' split) <;> omega
theorem turn_inj (k d d' : Int) (h : 0 <= d) (h3 : d < 4) (h' : 0 <= d') (h3' : d' < 4) (e : Ya k d = Ya k d') : d = d' := by
 unfold Ya at e
 by_cases c1 : k = 2 ∨ k = 4
 ·simp only [if_pos c1] at e
  rcases dir_cases h h3 with rfl | rfl | rfl | rfl <;> rcases dir_cases h' h3' with rfl | rfl | rfl | rfl <;> first | rfl | (exact absurd e (by decide))
 ·simp only [if_neg c1] at e
  by_cases c2 : k = 3 ∨ k = 5
  ·simp only [if_pos c2] at e
   omega
  ·simp only [if_neg c2] at e
   exact e
theorem kind_at {i j : Nat} {l : List S42} (h : okG i j l) {a : Int} (ha : 0 <= a) (hal : a < (l.length : Int)) : cellOkB (Qx l a).f0 (Qx l a).f1 = true := by
 obtain ⟨a, rfl⟩ := nat_of ha
 rw [rd_at l a (by omega)]
 exact List.all_eq_true.1 h.2 _ (List.getElem_mem _)
theorem okB_kind {k l : Int} (h : cellOkB k l = true) : 0 <= k ∧ k <= 7 := by
 unfold cellOkB at h
 by_cases e : k = 7
 ·omega
 ·rw [if_neg e] at h
  simp only [Bool.and_eq_true, decide_eq_true_eq] at h
  omega
theorem way_ok {i j : Nat} (hi : i < 5) (hj : j < 5) {l : List S42} (h : okG i j l) : (Xf ((i + 1 : Nat) : Int) l).Ok l.length where
 kin := fun a ha hal => by
  have hk := kind_at h ha hal
  show 0 <= (Qx l a).f0 ∧ (Qx l a).f0 <= 7
  exact okB_kind hk
 tin := turn_in
 tt := turn_inj
 t0 := fun k d _ _ hk => by
  show Ya k d = d
  unfold Ya
  rw [if_neg (by omega), if_neg (by omega)]
 nin := fun a d b ha hal hd hd3 hb => by
  have := nx_of hi hj h ha hal hd hd3 hb
  exact ⟨this.1, this.2.1⟩
 back := fun a d b ha hal hd hd3 hb => (nx_of hi hj h ha hal hd hd3 hb).2.2.2
def sN (i j : Nat) : Nat := 2 * ((i + 1) + (j + 1))
theorem sights_ij (i j : Nat) (hi : i < 5) (hj : j < 5) : Xk ((i + 1 : Nat) : Int) ((i + 1) * (j + 1)) = (sN i j : Int) := by
 unfold Xk sN
 rw [Int.natCast_mul, Int.mul_ediv_cancel_left _ (by omega)]
 omega
theorem sight_all (i j : Nat) (hi : i < 5) (hj : j < 5) : ∀ k, k < sN i j -> (fun s : Int × Int => decide (0 <= s.1) && (decide (s.1 < (((i + 1) * (j + 1) : Nat) : Int)) && (decide (0 <= s.2) && (decide (s.2 < 4) && (decide (nxB ((i + 1 : Nat) : Int) ((i + 1) * (j + 1)) s.1 ((s.2 + 2) % 4) = none) && decide (sightOfB ((i + 1 : Nat) : Int) ((i + 1) * (j + 1)) s.1 ((s.2 + 2) % 4) = (k : Int))))))) (Yi ((i + 1 : Nat) : Int) (((i + 1) * (j + 1) : Nat) : Int) (k : Int)) = true := by
 revert hj; revert j; revert hi; revert i
 decide +kernel
theorem out_all (i j : Nat) (hi : i < 5) (hj : j < 5) : ∀ a, a < (i + 1) * (j + 1) -> ∀ d : Nat, d < 4 -> ((nxB ((i + 1 : Nat) : Int) ((i + 1) * (j + 1)) (a : Int) (d : Int)).isSome || (fun s : Int => decide (0 <= s) && (decide (s < (sN i j : Int)) && decide (Yi ((i + 1 : Nat) : Int) (((i + 1) * (j + 1) : Nat) : Int) s = ((a : Int), ((d : Int) + 2) % 4)))) (sightOfB ((i + 1 : Nat) : Int) ((i + 1) * (j + 1)) (a : Int) (d : Int))) = true := by
 revert hj; revert j; revert hi; revert i
 decide +kernel
theorem sight_in {i j : Nat} (hi : i < 5) (hj : j < 5) {l : List S42} (h : okG i j l) {k : Int} (hk : 0 <= k) (hks : k < (sN i j : Int)) : inW l.length (Yi ((i + 1 : Nat) : Int) l.length k) ∧ (Xf ((i + 1 : Nat) : Int) l).nx (Yi ((i + 1 : Nat) : Int) l.length k).1 (((Yi ((i + 1 : Nat) : Int) l.length k).2 + 2) % 4) = none ∧ (Xf ((i + 1 : Nat) : Int) l).so (Yi ((i + 1 : Nat) : Int) l.length k).1 (((Yi ((i + 1 : Nat) : Int) l.length k).2 + 2) % 4) = k := by
 obtain ⟨k, rfl⟩ := nat_of hk
 have := sight_all i j hi hj k (by omega)
 rw [<- h.1] at this
 simp only [Bool.and_eq_true, decide_eq_true_eq] at this
 obtain ⟨h1, h2, h3, h4, h5, h6⟩ := this
 exact ⟨⟨h1, h2, h3, h4⟩, h5, h6⟩
theorem sight_fresh {i j : Nat} (hi : i < 5) (hj : j < 5) {l : List S42} (h : okG i j l) {k : Int} (hk : 0 <= k) (hks : k < (sN i j : Int)) : fresh (Xf ((i + 1 : Nat) : Int) l) (Yi ((i + 1 : Nat) : Int) l.length k) := by
 intro x hx
 rw [(sight_in hi hj h hk hks).2.1] at hx
 cases hx
theorem out_of {i j : Nat} (hi : i < 5) (hj : j < 5) {l : List S42} (h : okG i j l) {a d : Int} (ha : 0 <= a) (hal : a < (l.length : Int)) (hd : 0 <= d) (hd3 : d < 4) (hb : (Xf ((i + 1 : Nat) : Int) l).nx a d = none) : 0 <= (Xf ((i + 1 : Nat) : Int) l).so a d ∧ (Xf ((i + 1 : Nat) : Int) l).so a d < (sN i j : Int) ∧ Yi ((i + 1 : Nat) : Int) l.length ((Xf ((i + 1 : Nat) : Int) l).so a d) = (a, (d + 2) % 4) := by
 obtain ⟨a, rfl⟩ := nat_of ha
 obtain ⟨d, rfl⟩ := nat_of hd
 have hal' := hal
 rw [h.1] at hal'
 have := out_all i j hi hj a (by omega) d (by omega)
 rw [<- h.1, show nxB ((i + 1 : Nat) : Int) l.length (a : Int) (d : Int) = none from hb] at this
 simp only [Option.isSome_none, Bool.false_or, Bool.and_eq_true, decide_eq_true_eq] at this
 exact this
def Xj (n : Int) (l : List S42) (k : Int) : List TV × List TE :=
 if Yo n l = true ∧ 0 <= k ∧ k < Xk n l.length then ((come (Xf n l) 1000 (Yi n l.length k).1 (Yi n l.length k).2 64).getD ([], [])) else ([], [])
theorem trail_some {i j : Nat} (hi : i < 5) (hj : j < 5) {l : List S42} (h : okG i j l) {k : Int} (hk : 0 <= k) (hks : k < (sN i j : Int)) (q : Nat) (hq : 707 < q) : ∃ vs es, come (Xf ((i + 1 : Nat) : Int) l) q (Yi ((i + 1 : Nat) : Int) l.length k).1 (Yi ((i + 1 : Nat) : Int) l.length k).2 64 = some (vs, es) ∧ vs.length <= 12700 ∧ es.length <= 64 := by
 have hm := okG_25 hi hj h
 obtain ⟨vs, es, e, hl⟩ := come_some (way_ok hi hj h) 7 64 (by decide) (by decide) _ (sight_in hi hj h hk hks).1 (sight_fresh hi hj h hk hks) q (by
  have : (4 * l.length + 1) * 7 <= 707 := by omega
  omega)
 refine ⟨vs, es, e, ?_, ?_⟩
 ·have : costT l.length 7 <= 12700 := by
   simp only [costT]
   omega
  omega
 ·obtain ⟨h1, h2⟩ := come_sum q _ _ 64 vs es (by decide) e
  have := sumW_len es h2
  omega
end Go.Proofs.Yteapnipnoadejaa.P
namespace Go.Proofs.Yteapnipnoadejaa.P
open Go.RowKit Go.Proofs.YteapnipnoadejaaW
set_option linter.unusedVariables false
set_option linter.unusedSimpArgs false
theorem wtdiv {x : Int} (h : 0 <= x) (h2 : x <= 64) : wrap64 (Int.tdiv x 2) = Int.tdiv x 2 := by
 have := halfT h
 exact w64 _ (by omega) (by omega)
theorem l3Of_some {n : Int} {l : List S42} (h : Xz n l.length = true) {a d : Int} (ha : 0 <= a) (hal : a < (l.length : Int)) (hd : 0 <= d) (hd3 : d < 4) (k : Nat) (hk : 30 < k) : Yl.f k n l a d = some (sightOfB n l.length a d) := by
 have hs := sights_in h
 unfold Yl.f
 have e3 := spec_l3Of_l0 h a d (Xk n l.length).toNat k 0 (by omega) (by omega)
 rw [show ((0 : Nat) : Int) = 0 from rfl] at e3
 rw [e3]
 obtain ⟨i, j, hi, hj, hn, hm⟩ := shape_ij h
 obtain ⟨a, rfl⟩ := nat_of ha
 obtain ⟨d, rfl⟩ := nat_of hd
 rw [hm, hn, first_last i j a d hi hj (by omega) (by omega)]
section
variable {i j : Nat} (hi : i < 5) (hj : j < 5) {l : List S42} (h : okG i j l)
include hi hj h
theorem leaveC_eq (k : Nat) (hk : 30 < k) (c c' : Int -> Int -> Int -> TR) {a d w : Int} (ha : 0 <= a) (hal : a < (l.length : Int)) (hd : 0 <= d) (hd3 : d < 4) (hw : 0 < w) (hc : ∀ b, 0 <= b -> b < (l.length : Int) -> c b d w = c' b d w) :
  leaveC k ((i + 1 : Nat) : Int) l c a d w = leaveW (Xf ((i + 1 : Nat) : Int) l) c' a d w := by
 have hs := okG_shape hi hj h
 unfold leaveC leaveW
 rw [spec_l2Next_some hs a d ha hal hd (by omega) k (by omega), if_neg (by omega)]
 simp only [Option.bind_some]
 by_cases hb : (stepOf ((i + 1 : Nat) : Int) l.length a d).2.2 = true
 ·have e : (Xf ((i + 1 : Nat) : Int) l).nx a d = some (stepOf ((i + 1 : Nat) : Int) l.length a d).1 := if_pos hb
  obtain ⟨b0, b1⟩ := (way_ok hi hj h).nin a d _ ha hal hd hd3 e
  rw [if_pos hb, e]
  exact hc _ b0 b1
 ·have e : (Xf ((i + 1 : Nat) : Int) l).nx a d = none := if_neg hb
  rw [if_neg hb, e, l3Of_some hs ha hal hd hd3 k hk]
  rfl
theorem comeC_eq (k : Nat) (hk : 30 < k) : ∀ (q : Nat) (a d w : Int), 0 <= a -> a < (l.length : Int) -> 0 <= d -> d < 4 -> 0 < w -> w <= 64 -> comeC k ((i + 1 : Nat) : Int) l q a d w = come (Xf ((i + 1 : Nat) : Int) l) q a d w
 | 0, a, d, w, ha, hal, hd, hd3, hw, hw6 => rfl
 | q + 1, a, d, w, ha, hal, hd, hd3, hw, hw6 => by
  have ih := comeC_eq k hk q
  have hx := halfT (Int.le_of_lt hw)
  have lv : ∀ d' w', 0 <= d' -> d' < 4 -> 0 < w' -> w' <= 64 -> leaveC k ((i + 1 : Nat) : Int) l (comeC k ((i + 1 : Nat) : Int) l q) a d' w' = leaveW (Xf ((i + 1 : Nat) : Int) l) (come (Xf ((i + 1 : Nat) : Int) l) q) a d' w' := fun d' w' h1 h2 h3 h4 =>
   leaveC_eq hi hj h k hk _ _ ha hal h1 h2 h3 (fun b hb0 hb1 => ih b d' w' hb0 hb1 h1 h2 h3 h4)
  have hv : ∀ d' w', 0 <= d' -> d' < 4 -> 0 <= w' -> w' <= 64 -> halfC k ((i + 1 : Nat) : Int) l (comeC k ((i + 1 : Nat) : Int) l q) a d' w' = leaveW (Xf ((i + 1 : Nat) : Int) l) (come (Xf ((i + 1 : Nat) : Int) l) q) a d' w' := fun d' w' h1 h2 h3 h4 => by
   unfold halfC
   by_cases hz : 0 < w'
   ·rw [if_pos hz, lv d' w' h1 h2 hz h4]
   ·rw [if_neg hz]
    unfold leaveW
    rw [if_pos (by omega)]
  have hkd : (Xf ((i + 1 : Nat) : Int) l).kd a = (Qx l a).f0 := rfl
  have htn : ∀ f, (Xf ((i + 1 : Nat) : Int) l).tn f d = Ya f d := fun _ => rfl
  obtain ⟨kk, rfl⟩ : ∃ m, k = m + 1 := ⟨k - 1, by omega⟩
  have hdt : ∀ f, Zg.f (kk + 1) f d = some (Ya f d) := fun f => by rw [spec_DirTurn_some, if_pos ⟨hd, by omega⟩]
  have hkin := (way_ok hi hj h).kin a ha hal
  have z1 : ∀ kd at_, endL kd at_ 0 = [] := fun _ _ => rfl
  have z2 : ∀ d', leaveW (Xf ((i + 1 : Nat) : Int) l) (come (Xf ((i + 1 : Nat) : Int) l) q) a d' 0 = some ([], []) := fun _ => if_pos rfl
  simp only [comeC, come, hkd, htn]
  rw [hkd] at hkin
  generalize (Qx l a).f0 = f at *
  have ht := turn_in f d hd hd3
  rw [if_neg (by omega), if_pos ha, if_pos hal, wtdiv (Int.le_of_lt hw) hw6, w64 (w - Int.tdiv w 2) (by omega) (by omega), w64 (2 * Int.tdiv w 2) (by omega) (by omega), w64 (w - 2 * Int.tdiv w 2) (by omega) (by omega), hdt f, hv d _ hd hd3 hx.1 (by omega)]
  simp only [Option.bind_some]
  have hc : f = 0 ∨ f = 1 ∨ f = 2 ∨ f = 3 ∨ f = 4 ∨ f = 5 ∨ f = 6 ∨ f = 7 := by omega
  have e45 : w - Int.tdiv w 2 - Int.tdiv w 2 = w - 2 * Int.tdiv w 2 := by omega
  rcases hc with rfl | rfl | rfl | rfl | rfl | rfl | rfl | rfl
  ·have e : Yf 0 w = ⟨w, 0, 0, 0⟩ := rfl
   have et : Ya 0 d = d := rfl
   simp only [e, et, z1, z2, Option.bind_some, List.nil_append, List.append_nil]
   rw [if_neg (by decide), if_neg (by decide), if_neg (by decide), if_neg (by decide), lv d w hd hd3 hw hw6]
  ·have e : Yf 1 w = ⟨0, 0, 0, w⟩ := rfl
   have es : stopK 1 = 1 := rfl
   simp only [e, es, z1, z2, Option.bind_some, List.nil_append, List.append_nil]
   rw [if_pos trivial]
  ·have e : Yf 2 w = ⟨0, w, 0, 0⟩ := rfl
   simp only [e, z1, z2, Option.bind_some, List.nil_append, List.append_nil]
   rw [if_neg (by decide), if_neg (by decide), if_neg (by decide), if_neg (by decide), lv _ w ht.1 ht.2 hw hw6]
  ·have e : Yf 3 w = ⟨0, w, 0, 0⟩ := rfl
   simp only [e, z1, z2, Option.bind_some, List.nil_append, List.append_nil]
   rw [if_neg (by decide), if_neg (by decide), if_neg (by decide), if_neg (by decide), lv _ w ht.1 ht.2 hw hw6]
  ·have e : Yf 4 w = ⟨Int.tdiv w 2, Int.tdiv w 2, w - Int.tdiv w 2 - Int.tdiv w 2, 0⟩ := rfl
   simp only [e, z1, Option.bind_some, List.nil_append, e45]
   rw [if_neg (by decide), if_neg (by decide), if_neg (by decide), if_pos (by decide), hv _ _ ht.1 ht.2 hx.1 (by omega)]
  ·have e : Yf 5 w = ⟨Int.tdiv w 2, Int.tdiv w 2, w - Int.tdiv w 2 - Int.tdiv w 2, 0⟩ := rfl
   simp only [e, z1, Option.bind_some, List.nil_append, e45]
   rw [if_neg (by decide), if_neg (by decide), if_neg (by decide), if_pos (by decide), hv _ _ ht.1 ht.2 hx.1 (by omega)]
  ·have e : Yf 6 w = ⟨Int.tdiv w 2, 0, w - Int.tdiv w 2, 0⟩ := rfl
   simp only [e, z1, z2, Option.bind_some, List.nil_append, List.append_nil]
   rw [if_neg (by decide), if_neg (by decide), if_pos trivial]
  ·have e : Yf 7 w = ⟨0, 0, 0, w⟩ := rfl
   have es : stopK 7 = 2 := rfl
   simp only [e, es, z1, z2, Option.bind_some, List.nil_append, List.append_nil]
   rw [if_neg (by decide), if_pos trivial]
theorem l11Go_some {a : Int} (ha : 0 <= a) (has : a < (sN i j : Int)) (k : Nat) (hk : 1000 <= k) : ∃ vs es, Xe.f k ((i + 1 : Nat) : Int) l a = some (vs, es) ∧ come (Xf ((i + 1 : Nat) : Int) l) k (Yi ((i + 1 : Nat) : Int) l.length a).1 (Yi ((i + 1 : Nat) : Int) l.length a).2 64 = some (vs, es) ∧ vs.length <= 12700 ∧ es.length <= 64 := by
 obtain ⟨vs, es, e, h1, h2⟩ := trail_some hi hj h ha has k (by omega)
 have hs := okG_shape hi hj h
 have hsi := sights_ij i j hi hj
 rw [<- h.1] at hsi
 obtain ⟨⟨x0, x1, x2, x3⟩, _⟩ := sight_in hi hj h ha has
 refine ⟨vs, es, ?_, e, h1, h2⟩
 unfold Xe.f
 rw [spec_l3Ray_some hs a ha (by omega)]
 simp only [Option.bind_some]
 rw [comeC_eq hi hj h k (by omega) k _ _ 64 x0 x1 x2 x3 (by decide) (by decide), e]
 simp only [Option.bind_some]
 rw [if_pos ⟨by omega, by omega⟩]
end
theorem come_more (G : Way) : ∀ (q : Nat) (a d w : Int) (r : List TV × List TE), come G q a d w = some r -> come G (q + 1) a d w = some r
 | 0, a, d, w, r, h => by cases h
 | q + 1, a, d, w, r, h => by
  have ih := come_more G q
  have lv : ∀ d' w' r', leaveW G (come G q) a d' w' = some r' -> leaveW G (come G (q + 1)) a d' w' = some r' := by
   intro d' w' r' h'
   unfold leaveW at h' ⊢
   by_cases hz : w' = 0
   ·rw [if_pos hz] at h' ⊢
    exact h'
   ·rw [if_neg hz] at h' ⊢
    cases hb : G.nx a d' with
    | none =>
     rw [hb] at h'
     exact h'
    | some b =>
     rw [hb] at h'
     exact ih b d' w' r' h'
  rw [come] at h ⊢
  obtain ⟨p1, f1, h⟩ := Option.bind_eq_some_iff.1 h
  obtain ⟨p2, f2, h⟩ := Option.bind_eq_some_iff.1 h
  rw [lv _ _ _ f1]
  simp only [Option.bind_some]
  rw [lv _ _ _ f2]
  exact h
theorem come_le (G : Way) {q q' : Nat} (hq : q <= q') {a d w : Int} {r : List TV × List TE} (h : come G q a d w = some r) : come G q' a d w = some r := by
 induction hq with
 | refl => exact h
 | step _ ih => exact come_more G _ a d w r ih
theorem come_one (G : Way) {q q' : Nat} {a d w : Int} {r r' : List TV × List TE} (h : come G q a d w = some r) (h' : come G q' a d w = some r') : r = r' := by
 rcases Nat.le_total q q' with hq | hq
 ·have := come_le G hq h
  rw [this] at h'
  exact Option.some.inj h'
 ·have := come_le G hq h'
  rw [this] at h
  exact (Option.some.inj h).symm
theorem trailP_of {i j : Nat} (hi : i < 5) (hj : j < 5) {l : List S42} (h : okG i j l) {k : Int} (hk : 0 <= k) (hks : k < (sN i j : Int)) : come (Xf ((i + 1 : Nat) : Int) l) 1000 (Yi ((i + 1 : Nat) : Int) l.length k).1 (Yi ((i + 1 : Nat) : Int) l.length k).2 64 = some (Xj ((i + 1 : Nat) : Int) l k) ∧ (Xj ((i + 1 : Nat) : Int) l k).1.length <= 12700 ∧ (Xj ((i + 1 : Nat) : Int) l k).2.length <= 64 := by
 obtain ⟨vs, es, e, h1, h2⟩ := trail_some hi hj h hk hks 1000 (by omega)
 have hsi := sights_ij i j hi hj
 rw [<- h.1] at hsi
 have : Xj ((i + 1 : Nat) : Int) l k = (vs, es) := by
  unfold Xj
  rw [if_pos ⟨okG_grid hi hj h, hk, by omega⟩, e]
  rfl
 rw [this]
 exact ⟨e, h1, h2⟩
theorem trailP_no {n : Int} {l : List S42} {k : Int} (h : ¬ (Yo n l = true ∧ 0 <= k ∧ k < Xk n l.length)) : Xj n l k = ([], []) := by
 unfold Xj
 rw [if_neg h]
theorem trailP_len (n : Int) (l : List S42) (k : Int) : (Xj n l k).1.length <= 12700 ∧ (Xj n l k).2.length <= 64 := by
 by_cases h : Yo n l = true ∧ 0 <= k ∧ k < Xk n l.length
 ·obtain ⟨hg, h0, h1⟩ := h
  obtain ⟨i, j, hi, hj, rfl, ho⟩ := okG_of hg
  have hsi := sights_ij i j hi hj
  rw [<- ho.1] at hsi
  exact (trailP_of hi hj ho h0 (by omega)).2
 ·rw [trailP_no h]
  simp
theorem spec_l11Is_some (n : Int) (l : List S42) (a : Int) (hl : l.length <= 1099511627776) (k : Nat) (hk : l.length + 2 < k) : Xw.f k n l a = some (decide (Yo n l = true ∧ 0 <= a ∧ a < Xk n l.length)) := by
 unfold Xw.f
 rw [spec_GridOk_some n l hl k hk]
 simp only [Option.bind_some]
 by_cases h : Yo n l = true
 ·have hs := sights_in (shape_of h).1
  rw [if_pos h, spec_l3Many_some (shape_of h).1]
  simp only [Option.bind_some, l6In_some]
  rw [w64 _ (by omega) (by omega)]
  congr 1
  rw [Bool.eq_iff_iff]
  simp only [Bool.and_eq_true, decide_eq_true_eq, h, true_and]
  omega
 ·rw [if_neg h]
  simp [h]
theorem l11Go_trail (n : Int) (l : List S42) (a : Int) (h : Yo n l = true ∧ 0 <= a ∧ a < Xk n l.length) (k : Nat) (hk : 1000 <= k) : Xe.f k n l a = some (Xj n l a) := by
 obtain ⟨hg, h0, h1⟩ := h
 obtain ⟨i, j, hi, hj, rfl, ho⟩ := okG_of hg
 have hsi := sights_ij i j hi hj
 rw [<- ho.1] at hsi
 obtain ⟨vs, es, e, e2, _⟩ := l11Go_some hi hj ho h0 (by omega) k hk
 rw [e, come_one _ e2 (trailP_of hi hj ho h0 (by omega)).1]
theorem spec_TrailVisits_some (n : Int) (l : List S42) (a : Int) (hl : l.length <= 1099511627776) (k : Nat) (hk : l.length + 1000 < k) : Zw.f k n l a = some (Xj n l a).1 := by
 unfold Zw.f
 rw [spec_l11Is_some n l a hl k (by omega)]
 simp only [Option.bind_some]
 by_cases h : Yo n l = true ∧ 0 <= a ∧ a < Xk n l.length
 ·rw [decide_eq_true h, if_pos rfl, l11Go_trail n l a h k (by omega)]
  rfl
 ·rw [decide_eq_false h, if_neg (by decide), trailP_no h]
end Go.Proofs.Yteapnipnoadejaa.P
namespace Go.Proofs.Yteapnipnoadejaa.P
open Go.RowKit Go.Proofs.YteapnipnoadejaaW
set_option linter.unusedVariables false
set_option linter.unusedSimpArgs false
abbrev TB := S74
theorem rd_top (stk : List TB) (b : TB) : Qj (stk ++ [b]) (stk.length : Int) = b := by
 unfold Qj
 rw [Int.toNat_natCast, List.getD_eq_getElem?_getD]
 simp
theorem take_top (stk : List TB) (b : TB) : (stk ++ [b]).take ((stk.length : Int)).toNat = stk := by
 rw [Int.toNat_natCast]
 simp
theorem top_w (stk : List TB) (b : TB) (hs : stk.length <= 1000000) : wrap64 (((stk ++ [b]).length : Int) - 1) = (stk.length : Int) := by
 rw [List.length_append, List.length_singleton, w64 _ (by omega) (by omega)]
 omega
theorem pop_zero (k : Nat) (stk : List TB) (b : TB) (n : Int) (l : List S42) (V : List TV) (E : List TE) (hs : stk.length <= 1000000) (h : b.f0.f2 = 0) : Wj.l0 (k + 1) (stk ++ [b]) n l V E = Wj.l0 k stk n l V E := by
 have hl : ((stk ++ [b]).length : Int) = (stk.length : Int) + 1 := by simp
 simp only [Wj.l0, top_w stk b hs, rd_top, take_top, Option.bind_some]
 rw [if_pos (by omega), if_pos (by omega), if_pos (by omega), if_pos (by omega), if_pos h]
theorem pop_out (k : Nat) (stk : List TB) (b : TB) (n : Int) (l : List S42) (V : List TV) (E : List TE) (hs : stk.length <= 1000000) (hE : E.length <= 1000000) (h : b.f0.f2 ≠ 0) (h1 : 0 <= b.f1) : Wj.l0 (k + 1) (stk ++ [b]) n l V E = Wj.l0 k stk n l V (E ++ endL 0 b.f1 b.f0.f2) := by
 have hl : ((stk ++ [b]).length : Int) = (stk.length : Int) + 1 := by simp
 simp only [Wj.l0, top_w stk b hs, rd_top, take_top, Option.bind_some]
 rw [if_pos (by omega), if_pos (by omega), if_pos (by omega), if_pos (by omega), if_neg h, if_pos h1, if_pos (by omega)]
theorem pop_in (k : Nat) (stk : List TB) (a d w : Int) (n : Int) (l : List S42) (V : List TV) (E : List TE) (hs : stk.length <= 1000000) (hV : V.length <= 1000000) (hE : E.length <= 1000000) (hw : w ≠ 0) (ha : 0 <= a) (hal : a < (l.length : Int)) (f : Int) (hf : (Qx l a).f0 = f) (sp : Spread) (hsp : Yq.f f w = some (sp.pass, sp.turn, sp.lost, sp.stop)) (t : Int) (ht : Yc.f f d = some t) (b c : Int × Int × Int × Int) (hb : Zb.f n l a t sp.turn = some b) (hc : Zb.f n l a d sp.pass = some c) :
  Wj.l0 (k + 1) (stk ++ [⟨⟨a, d, w⟩, -1⟩]) n l V E = Wj.l0 k ((stk ++ [⟨⟨b.1, b.2.1, b.2.2.1⟩, b.2.2.2⟩]) ++ [⟨⟨c.1, c.2.1, c.2.2.1⟩, c.2.2.2⟩]) n l (V ++ [⟨a, d, w⟩]) ((E ++ endL (stopK f) a sp.stop) ++ endL 3 a sp.lost) := by
 have hl : ((stk ++ [(⟨⟨a, d, w⟩, -1⟩ : TB)]).length : Int) = (stk.length : Int) + 1 := by simp
 have he : ∀ kk at_ x, (endL kk at_ x).length <= 1 := fun kk at_ x => by
  unfold endL
  split <;> simp
 have e1 := he (stopK f) a sp.stop
 have hle : (E ++ endL (stopK f) a sp.stop).length <= 1000001 := by
  rw [List.length_append]
  omega
 simp only [Wj.l0, top_w stk _ hs, rd_top, take_top, Option.bind_some, hf]
 rw [if_pos (by omega), if_pos (by omega), if_pos (by omega), if_pos (by omega), if_neg hw, if_neg (by omega), if_pos (by omega), if_pos ha, if_pos hal, hsp]
 simp only [Option.bind_some]
 rw [if_pos (by omega), if_pos (by omega), ht]
 simp only [Option.bind_some]
 rw [hb]
 simp only [Option.bind_some]
 rw [hc]
 simp only [Option.bind_some]
 rw [if_pos (by simp; omega), List.append_assoc stk]
 rfl
theorem spread_eq {f w : Int} (h0 : 0 <= f) (h7 : f <= 7) (hw : 0 <= w) (hw6 : w <= 64) : Yq.f f w = some ((Yf f w).pass, (Yf f w).turn, (Yf f w).lost, (Yf f w).stop) := by
 have hx := halfT hw
 have e1 := wtdiv hw hw6
 have e2 : wrap64 (w - Int.tdiv w 2) = w - Int.tdiv w 2 := w64 _ (by omega) (by omega)
 have e3 : wrap64 (w - Int.tdiv w 2 - Int.tdiv w 2) = w - Int.tdiv w 2 - Int.tdiv w 2 := w64 _ (by omega) (by omega)
 unfold Yq.f
 rw [e1, e2, e3]
 have hc : f = 0 ∨ f = 1 ∨ f = 2 ∨ f = 3 ∨ f = 4 ∨ f = 5 ∨ f = 6 ∨ f = 7 := by omega
 rcases hc with rfl | rfl | rfl | rfl | rfl | rfl | rfl | rfl <;> rfl
section
variable {i j : Nat} (hi : i < 5) (hj : j < 5) {l : List S42} (h : okG i j l)
include hi hj h
theorem beam_eq {a d : Int} (ha : 0 <= a) (hal : a < (l.length : Int)) (hd : 0 <= d) (hd3 : d < 4) (w : Int) : Zb.f ((i + 1 : Nat) : Int) l a d w = some (match (Xf ((i + 1 : Nat) : Int) l).nx a d with | some b => (b, d, w, -1) | none => (0, 0, w, (Xf ((i + 1 : Nat) : Int) l).so a d)) := by
 have hs := okG_shape hi hj h
 have hm := okG_25 hi hj h
 unfold Zb.f
 rw [impl_rayStep_some hs a d ha hal hd (by omega)]
 simp only [Option.bind_some]
 by_cases hb : (stepOf ((i + 1 : Nat) : Int) l.length a d).2.2 = true
 ·have e : (Xf ((i + 1 : Nat) : Int) l).nx a d = some (stepOf ((i + 1 : Nat) : Int) l.length a d).1 := if_pos hb
  have e2 : (stepOf ((i + 1 : Nat) : Int) l.length a d).2.1 = d := by
   revert hb
   unfold stepOf
   rcases dir_cases hd hd3 with rfl | rfl | rfl | rfl
   ·rw [if_pos rfl]
    split
    ·exact fun _ => rfl
    ·exact fun hb => by cases hb
   ·rw [if_neg (by decide), if_pos rfl]
    split
    ·exact fun _ => rfl
    ·exact fun hb => by cases hb
   ·rw [if_neg (by decide), if_neg (by decide), if_pos rfl]
    split
    ·exact fun _ => rfl
    ·exact fun hb => by cases hb
   ·rw [if_neg (by decide), if_neg (by decide), if_neg (by decide)]
    split
    ·exact fun _ => rfl
    ·exact fun hb => by cases hb
  rw [if_pos hb, e, e2]
 ·have e : (Xf ((i + 1 : Nat) : Int) l).nx a d = none := if_neg hb
  rw [if_neg hb, e, impl_SightOf_some _ l a d (by omega)]
  simp only [Option.bind_some]
  unfold sightOf
  rw [if_pos ⟨okG_grid hi hj h, hd, by omega⟩]
  rfl
theorem run_trail : ∀ (q : Nat) (a d w : Int) (vs : List TV) (es : List TE), 0 <= a -> a < (l.length : Int) -> 0 <= d -> d < 4 -> 0 < w -> w <= 64 -> come (Xf ((i + 1 : Nat) : Int) l) q a d w = some (vs, es) -> ∀ (K : Nat) (stk : List TB) (V : List TV) (E : List TE), stk.length + 2 * vs.length <= 100000 -> V.length + vs.length <= 100000 -> E.length + es.length <= 100000 →
  Wj.l0 (K + (2 * vs.length + 1)) (stk ++ [⟨⟨a, d, w⟩, -1⟩]) ((i + 1 : Nat) : Int) l V E = Wj.l0 K stk ((i + 1 : Nat) : Int) l (V ++ vs) (E ++ es)
 | 0, a, d, w, vs, es, ha, hal, hd, hd3, hw, hw6, hc, K, stk, V, E, h1, h2, h3 => by cases hc
 | q + 1, a, d, w, vs, es, ha, hal, hd, hd3, hw, hw6, hc, K, stk, V, E, h1, h2, h3 => by
  have ih := run_trail q
  have lv : ∀ d' w' (vs : List TV) (es : List TE), 0 <= d' -> d' < 4 -> 0 <= w' -> w' <= 64 -> leaveW (Xf ((i + 1 : Nat) : Int) l) (come (Xf ((i + 1 : Nat) : Int) l) q) a d' w' = some (vs, es) -> ∃ b, Zb.f ((i + 1 : Nat) : Int) l a d' w' = some b ∧ ∀ (K : Nat) (stk : List TB) (V : List TV) (E : List TE), stk.length + 2 * vs.length <= 100000 -> V.length + vs.length <= 100000 -> E.length + es.length <= 100000 →
    Wj.l0 (K + (2 * vs.length + 1)) (stk ++ [⟨⟨b.1, b.2.1, b.2.2.1⟩, b.2.2.2⟩]) ((i + 1 : Nat) : Int) l V E = Wj.l0 K stk ((i + 1 : Nat) : Int) l (V ++ vs) (E ++ es) := by
   intro d' w' vs es g1 g2 g3 g4 hx
   refine ⟨_, beam_eq hi hj h ha hal g1 g2 w', ?_⟩
   intro K stk V E k1 k2 k3
   unfold leaveW at hx
   by_cases hz : w' = 0
   ·rw [if_pos hz] at hx
    obtain ⟨rfl, rfl⟩ := Prod.mk.inj (Option.some.inj hx)
    rw [List.append_nil, List.append_nil, show K + (2 * ([] : List TV).length + 1) = K + 1 from rfl]
    refine pop_zero K stk _ _ l V E (by omega) ?_
    show (match (Xf ((i + 1 : Nat) : Int) l).nx a d' with | some b => (b, d', w', -1) | none => (0, 0, w', (Xf ((i + 1 : Nat) : Int) l).so a d')).2.2.1 = 0
    cases (Xf ((i + 1 : Nat) : Int) l).nx a d' <;> exact hz
   ·rw [if_neg hz] at hx
    cases hb : (Xf ((i + 1 : Nat) : Int) l).nx a d' with
    | none =>
     rw [hb] at hx
     obtain ⟨rfl, rfl⟩ := Prod.mk.inj (Option.some.inj hx)
     obtain ⟨o1, o2, _⟩ := out_of hi hj h ha hal g1 g2 hb
     rw [List.append_nil, show K + (2 * ([] : List TV).length + 1) = K + 1 from rfl]
     exact pop_out K stk _ _ l V E (by omega) (by omega) hz o1
    | some b =>
     rw [hb] at hx
     obtain ⟨b0, b1⟩ := (way_ok hi hj h).nin a d' b ha hal g1 g2 hb
     exact ih b d' w' vs es b0 b1 g1 g2 (by omega) g4 hx K stk V E k1 k2 k3
  have hkin := (way_ok hi hj h).kin a ha hal
  have hsp := spread_eq (f := (Xf ((i + 1 : Nat) : Int) l).kd a) hkin.1 hkin.2 (Int.le_of_lt hw) hw6
  obtain ⟨s0, s1, s2, s3, s4, s5, s6⟩ := spread_sum (k := (Xf ((i + 1 : Nat) : Int) l).kd a) (Int.le_of_lt hw)
  have htn := turn_in ((Xf ((i + 1 : Nat) : Int) l).kd a) d hd hd3
  rw [come] at hc
  obtain ⟨⟨v1, e1⟩, f1, hc⟩ := Option.bind_eq_some_iff.1 hc
  obtain ⟨⟨v2, e2⟩, f2, hc⟩ := Option.bind_eq_some_iff.1 hc
  obtain ⟨rfl, rfl⟩ := Prod.mk.inj (Option.some.inj hc)
  obtain ⟨c, hcb, c1⟩ := lv d _ v1 e1 hd hd3 s1 (by omega) f1
  obtain ⟨b, hbb, c2⟩ := lv _ _ v2 e2 htn.1 htn.2 s2 (by omega) f2
  simp only [List.length_cons, List.length_append] at h1 h2 h3
  have hdt : Yc.f ((Xf ((i + 1 : Nat) : Int) l).kd a) d = some (Ya ((Xf ((i + 1 : Nat) : Int) l).kd a) d) := by
   unfold Yc.f
   rw [if_pos ⟨hd, by omega⟩]
  rw [show K + (2 * ((⟨a, d, w⟩ : TV) :: ((v1, e1).1 ++ (v2, e2).1)).length + 1) = ((K + (2 * v2.length + 1)) + (2 * v1.length + 1)) + 1 from by simp only [List.length_cons, List.length_append]; omega,
   pop_in _ stk a d w _ l V E (by omega) (by omega) (by omega) (by omega) ha hal ((Xf ((i + 1 : Nat) : Int) l).kd a) rfl _ hsp _ hdt b c hbb hcb]
  rw [c1 _ _ _ _ (by simp only [List.length_append, List.length_cons, List.length_nil]; omega) (by simp only [List.length_append, List.length_cons, List.length_nil]; omega) (by simp only [List.length_append]; omega), c2 _ _ _ _ (by omega) (by simp only [List.length_append, List.length_cons, List.length_nil]; omega) (by simp only [List.length_append]; omega)]
  simp only [List.append_assoc, List.cons_append, List.nil_append]
theorem trailOf_some {a : Int} (ha : 0 <= a) (has : a < (sN i j : Int)) (k : Nat) (hk : 30000 <= k) : Wj.f k ((i + 1 : Nat) : Int) l a = some (Xj ((i + 1 : Nat) : Int) l a) := by
 obtain ⟨e, h1, h2⟩ := trailP_of hi hj h ha has
 generalize Xj ((i + 1 : Nat) : Int) l a = r at e h1 h2 ⊢
 obtain ⟨vs, es⟩ := r
 replace h1 : vs.length <= 12700 := h1
 replace h2 : es.length <= 64 := h2
 have hm := okG_25 hi hj h
 have hsi := sights_ij i j hi hj
 rw [<- h.1] at hsi
 obtain ⟨⟨x0, x1, x2, x3⟩, _⟩ := sight_in hi hj h ha has
 unfold Wj.f
 rw [impl_SightRay_some _ l a (by omega) k (by omega)]
 simp only [Option.bind_some]
 have hr : sightRay ((i + 1 : Nat) : Int) l a = ((Yi ((i + 1 : Nat) : Int) l.length a).1, (Yi ((i + 1 : Nat) : Int) l.length a).2, true) := by
  unfold sightRay
  rw [if_pos ⟨okG_grid hi hj h, ha, by omega⟩]
 rw [hr, if_pos rfl]
 obtain ⟨k, rfl⟩ : ∃ m, k = (m + 1) + (2 * vs.length + 1) := ⟨k - 1 - (2 * vs.length + 1), by omega⟩
 have := run_trail hi hj h 1000 _ _ 64 _ _ x0 x1 x2 x3 (by decide) (by decide) e (k + 1) [] [] [] (by simp only [List.length_nil]; omega) (by simp only [List.length_nil]; omega) (by simp only [List.length_nil]; omega)
 simp only [List.nil_append] at this
 rw [this]
 simp [Wj.l0]
end
theorem impl_trailOf_some (n : Int) (l : List S42) (a : Int) (hl : l.length <= 1099511627776) (k : Nat) (hk : l.length + 30000 <= k) : Wj.f k n l a = some (Xj n l a) := by
 by_cases h : Yo n l = true ∧ 0 <= a ∧ a < Xk n l.length
 ·obtain ⟨hg, h0, h1⟩ := h
  obtain ⟨i, j, hi, hj, rfl, ho⟩ := okG_of hg
  have hsi := sights_ij i j hi hj
  rw [<- ho.1] at hsi
  exact trailOf_some hi hj ho h0 (by omega) k (by omega)
 ·rw [trailP_no h]
  unfold Wj.f
  rw [impl_SightRay_some n l a hl k (by omega)]
  simp only [Option.bind_some]
  have hr : sightRay n l a = (0, 0, false) := by
   unfold sightRay
   rw [if_neg h]
  rw [hr, if_neg (by decide)]
end Go.Proofs.Yteapnipnoadejaa.P
namespace Go.Proofs.Yteapnipnoadejaa.P
open Go.RowKit Go.Proofs.YteapnipnoadejaaW
set_option linter.unusedVariables false
set_option linter.unusedSimpArgs false
theorem impl_TrailVisits_some (n : Int) (l : List S42) (a : Int) (hl : l.length <= 1099511627776) (k : Nat) (hk : l.length + 30000 <= k) : Yt.f k n l a = some (Xj n l a).1 := by
 unfold Yt.f
 rw [impl_trailOf_some n l a hl k hk]
 rfl
end Go.Proofs.Yteapnipnoadejaa.P
namespace Go.Proofs.Yteapnipnoadejaa.P
open Go.RowKit Go.Proofs.YteapnipnoadejaaW
set_option linter.unusedVariables false
set_option linter.unusedSimpArgs false
theorem come_ind {G : Way} {m : Nat} (hG : G.Ok m) (P Q : Int -> Int -> Int -> List TV -> List TE -> Prop)
  (hzero : ∀ a d, inW m (a, d) -> Q a d 0 [] [])
  (hout : ∀ a d w, inW m (a, d) -> 0 < w -> G.nx a d = none -> Q a d w [] [⟨0, G.so a d, w⟩])
  (hin : ∀ a d w b vs es, inW m (a, d) -> inW m (b, d) -> 0 < w -> G.nx a d = some b -> P b d w vs es -> Q a d w vs es)
  (hstep : ∀ a d w (v1 v2 : List TV) (e1 e2 : List TE), inW m (a, d) -> 0 < w -> Q a d (Yf (G.kd a) w).pass v1 e1 -> Q a (G.tn (G.kd a) d) (Yf (G.kd a) w).turn v2 e2 -> P a d w (⟨a, d, w⟩ :: (v1 ++ v2)) (endL (stopK (G.kd a)) a (Yf (G.kd a) w).stop ++ (endL 3 a (Yf (G.kd a) w).lost ++ (e1 ++ e2)))) :
  ∀ (q : Nat) (a d w : Int) (vs : List TV) (es : List TE), inW m (a, d) -> 0 < w -> come G q a d w = some (vs, es) -> P a d w vs es
 | 0, a, d, w, vs, es, hs, hw, h => by cases h
 | q + 1, a, d, w, vs, es, hs, hw, h => by
  have ih := come_ind hG P Q hzero hout hin hstep q
  obtain ⟨ha, ham, hd, hd3⟩ := hs
  simp only at ha ham hd hd3
  have lv : ∀ d' w' v s, 0 <= d' -> d' < 4 -> 0 <= w' -> leaveW G (come G q) a d' w' = some (v, s) -> Q a d' w' v s := by
   intro d' w' v s g1 g2 g3 hx
   unfold leaveW at hx
   by_cases hz : w' = 0
   ·rw [if_pos hz] at hx
    obtain ⟨rfl, rfl⟩ := Prod.mk.inj (Option.some.inj hx)
    rw [hz]
    exact hzero a d' ⟨ha, ham, g1, g2⟩
   ·rw [if_neg hz] at hx
    cases hb : G.nx a d' with
    | none =>
     rw [hb] at hx
     obtain ⟨rfl, rfl⟩ := Prod.mk.inj (Option.some.inj hx)
     have := hout a d' w' ⟨ha, ham, g1, g2⟩ (by omega) hb
     unfold endL
     rw [if_pos (by omega)]
     exact this
    | some b =>
     rw [hb] at hx
     obtain ⟨b0, b1⟩ := hG.nin a d' b ha ham g1 g2 hb
     exact hin a d' w' b v s ⟨ha, ham, g1, g2⟩ ⟨b0, b1, g1, g2⟩ (by omega) hb (ih b d' w' v s ⟨b0, b1, g1, g2⟩ (by omega) hx)
  obtain ⟨_, s1, s2, _⟩ := spread_sum (k := G.kd a) (Int.le_of_lt hw)
  obtain ⟨t0, t1⟩ := hG.tin (G.kd a) d hd hd3
  rw [come] at h
  obtain ⟨⟨v1, e1⟩, f1, h⟩ := Option.bind_eq_some_iff.1 h
  obtain ⟨⟨v2, e2⟩, f2, h⟩ := Option.bind_eq_some_iff.1 h
  obtain ⟨rfl, rfl⟩ := Prod.mk.inj (Option.some.inj h)
  exact hstep a d w v1 v2 e1 e2 ⟨ha, ham, hd, hd3⟩ hw (lv d _ v1 e1 hd hd3 s1 f1) (lv _ _ v2 e2 t0 t1 s2 f2)
section
variable {i j : Nat} (hi : i < 5) (hj : j < 5) {l : List S42} (h : okG i j l)
include hi hj h
end
end Go.Proofs.Yteapnipnoadejaa.P
namespace Go.Proofs.Yteapnipnoadejaa.P
open Go.RowKit Go.Proofs.YteapnipnoadejaaW
set_option linter.unusedVariables false
set_option linter.unusedSimpArgs false
theorem llVisit_rd (es : List S34) (q : Nat) (h : q < es.length) : Qp es (q : Int) = es[q] := by
 unfold Qp
 rw [Int.toNat_natCast, List.getD_eq_getElem?_getD, List.getElem?_eq_getElem h]
 rfl
theorem llVisits_l0 (l l' : List S34) (hl : l.length <= 1099511627776) (he : l.length = l'.length) : ∀ (r k i : Nat), i + r = l.length -> r < k →
  ∃ b, Zd.l0 k l l' (i : Int) = some b ∧ (b = true ↔ l.drop i = l'.drop i)
 | 0, k, i, hi, hk => by
  obtain ⟨k, rfl⟩ : ∃ m, k = m + 1 := ⟨k - 1, by omega⟩
  simp only [Zd.l0]
  rw [if_neg (by omega)]
  exact ⟨true, rfl, by simp [List.drop_eq_nil_of_le (show l.length <= i by omega), List.drop_eq_nil_of_le (show l'.length <= i by omega)]⟩
 | r + 1, k, i, hi, hk => by
  obtain ⟨k, rfl⟩ : ∃ m, k = m + 1 := ⟨k - 1, by omega⟩
  have h1 : i < l.length := by omega
  have h2 : i < l'.length := by omega
  simp only [Zd.l0]
  rw [if_pos (by omega), if_pos (by omega), if_pos (by omega), llVisit_rd l i h1, llVisit_rd l' i h2, w64 _ (by omega) (by omega)]
  obtain ⟨b, e, hb⟩ := llVisits_l0 l l' hl he r k (i + 1) (by omega) (by omega)
  rw [show ((i + 1 : Nat) : Int) = (i : Int) + 1 from by omega] at e
  by_cases h : l[i] = l'[i]
  ·rw [h, if_neg (by simp), e]
   refine ⟨b, rfl, ?_⟩
   rw [List.drop_eq_getElem_cons h1, List.drop_eq_getElem_cons h2, List.cons.injEq, hb]
   exact ⟨fun x => ⟨h, x⟩, fun x => x.2⟩
  ·rw [if_pos]
   ·refine ⟨false, rfl, ?_⟩
    rw [List.drop_eq_getElem_cons h1, List.drop_eq_getElem_cons h2, List.cons.injEq]
    exact ⟨fun x => (by cases x), fun x => absurd x.1 h⟩
   ·generalize l[i] = x at h
    generalize l'[i] = y at h
    cases x
    cases y
    refine Decidable.byContradiction (fun hc => h ?_)
    simp at hc
    simp [hc]
theorem llVisits_some (l l' : List S34) (hl : l.length <= 1099511627776) (k : Nat) (hk : l.length < k) : ∃ b, Zd.f k l l' = some b ∧ (b = true ↔ l = l') := by
 unfold Zd.f
 by_cases he : l.length = l'.length
 ·rw [if_pos (by omega)]
  obtain ⟨b, e, hb⟩ := llVisits_l0 l l' hl he l.length k 0 (by omega) hk
  rw [show ((0 : Nat) : Int) = 0 from rfl] at e
  exact ⟨b, e, by simpa using hb⟩
 ·rw [if_neg (by omega)]
  exact ⟨false, rfl, by simp; exact fun hh => he (by rw [hh])⟩
theorem llVisits_same (l : List S34) (hl : l.length <= 1099511627776) (k : Nat) (hk : l.length < k) : Zd.f k l l = some true := by
 obtain ⟨b, e, hb⟩ := llVisits_some l l hl k hk
 rw [e, hb.2 rfl]
end Go.Proofs.Yteapnipnoadejaa.P
namespace Go.Proofs.Yteapnipnoadejaa.P
open Go.RowKit Go.Proofs.YteapnipnoadejaaW
set_option linter.unusedVariables false
set_option linter.unusedSimpArgs false
theorem llSight_some (n : Int) (l : List S42) (a : Int) (hl : l.length <= 1099511627776) (k : Nat) (hk : l.length + 2 < k) : Yr.f k n l a = some (decide (Yo n l = true ∧ 0 <= a ∧ a < Xk n l.length)) := by
 unfold Yr.f
 rw [spec_SightMany_some n l hl k hk]
 simp only [Option.bind_some]
 unfold sightMany
 by_cases h : Yo n l = true
 ·rw [if_pos h]
  by_cases h0 : a >= 0
  ·rw [if_pos h0]
   congr 1
   rw [Bool.eq_iff_iff]
   simp only [decide_eq_true_eq, h, true_and]
   omega
  ·rw [if_neg h0]
   congr 1
   exact (decide_eq_false (fun x => h0 x.2.1)).symm
 ·have e : decide (Yo n l = true ∧ 0 <= a ∧ a < Xk n l.length) = false := decide_eq_false (fun x => h x.1)
  rw [if_neg h, e]
  by_cases h0 : a >= 0
  ·rw [if_pos h0, decide_eq_false (by omega)]
  ·rw [if_neg h0]
end Go.Proofs.Yteapnipnoadejaa.P
namespace Go.Proofs.Yteapnipnoadejaa.Pure
open Go.RowKit Go.Proofs.Yteapnipnoadejaa.P Go.Proofs.YteapnipnoadejaaW
set_option linter.unusedVariables false
set_option linter.unusedSimpArgs false
def stepT (G : P.Way) (u v : TV) : Prop :=
 ¬ (G.kd u.f0 = 1 ∨ G.kd u.f0 = 7) ∧ (if G.kd u.f0 = 6 ∨ G.kd u.f0 = 4 ∨ G.kd u.f0 = 5 then Int.tdiv u.f2 2 else u.f2) = v.f2 ∧
 ((G.nx u.f0 (G.tn (G.kd u.f0) u.f1) = some v.f0 ∧ v.f1 = G.tn (G.kd u.f0) u.f1) ∨ ((G.kd u.f0 = 4 ∨ G.kd u.f0 = 5) ∧ G.nx u.f0 u.f1 = some v.f0 ∧ v.f1 = u.f1))
def linked (S : TV -> TV -> Prop) : List TV -> List TV -> Prop
 | _, [] => True
 | seen, v :: r => (∃ u, u ∈ seen ∧ S u v) ∧ linked S (v :: seen) r
theorem linked_mono {S : TV -> TV -> Prop} : ∀ (r a b : List TV), (∀ u, u ∈ a -> u ∈ b) -> linked S a r -> linked S b r
 | [], a, b, h, _ => trivial
 | v :: r, a, b, h, ⟨⟨u, hu, hs⟩, hr⟩ => ⟨⟨u, h u hu, hs⟩, linked_mono r _ _ (fun x hx => by
   rcases List.mem_cons.1 hx with rfl | hx
   ·exact List.mem_cons_self
   ·exact List.mem_cons_of_mem _ (h x hx)) hr⟩
theorem linked_app {S : TV -> TV -> Prop} : ∀ (r t a : List TV), linked S a r -> linked S a t -> linked S a (r ++ t)
 | [], t, a, _, ht => ht
 | v :: r, t, a, ⟨h, hr⟩, ht => ⟨h, linked_app r t _ hr (linked_mono t _ _ (fun x hx => List.mem_cons_of_mem _ hx) ht)⟩
theorem linked_at {S : TV -> TV -> Prop} : ∀ (r : List TV) (pre : List TV) (i : Nat) (hi : i < r.length), linked S pre.reverse r -> ∃ n, ∃ hn : n < (pre ++ r).length, n < pre.length + i ∧ S ((pre ++ r)[n]) (r[i])
 | [], pre, i, hi, _ => by simp at hi
 | v :: r, pre, 0, hi, ⟨⟨u, hu, hs⟩, _⟩ => by
  obtain ⟨n, hn, e⟩ := List.mem_iff_getElem.1 (List.mem_reverse.1 hu)
  refine ⟨n, by rw [List.length_append]; omega, by omega, ?_⟩
  rw [List.getElem_append_left hn, e]
  exact hs
 | v :: r, pre, i + 1, hi, ⟨_, hr⟩ => by
  have h' : linked S (pre ++ [v]).reverse r := by
   rw [List.reverse_append]
   exact hr
  obtain ⟨n, hn, h1, h2⟩ := linked_at r (pre ++ [v]) i (by simpa using hi) h'
  have e : pre ++ [v] ++ r = pre ++ v :: r := by simp
  refine ⟨n, by rw [<- e]; exact hn, by rw [List.length_append] at h1; simp at h1; omega, ?_⟩
  have e2 : (pre ++ [v] ++ r)[n]'hn = (pre ++ v :: r)[n]'(by rw [<- e]; exact hn) := by simp only [e]
  rw [<- e2]
  simpa using h2
theorem come_linked {G : P.Way} {m : Nat} (hG : G.Ok m) (q : Nat) (a d w : Int) (vs : List TV) (es : List TE) (hs : inW m (a, d)) (hw : 0 < w) (h : come G q a d w = some (vs, es)) : ∃ r, vs = ⟨a, d, w⟩ :: r ∧ linked (stepT G) [⟨a, d, w⟩] r ∧ ∀ v ∈ vs, inW m (v.f0, v.f1) ∧ 0 < v.f2 ∧ v.f2 <= w := by
 refine come_ind hG (fun a d w vs es => ∃ r, vs = ⟨a, d, w⟩ :: r ∧ linked (stepT G) [⟨a, d, w⟩] r ∧ ∀ v ∈ vs, inW m (v.f0, v.f1) ∧ 0 < v.f2 ∧ v.f2 <= w)
  (fun a d w vs es => vs = [] ∨ ∃ b r, 0 < w ∧ G.nx a d = some b ∧ vs = ⟨b, d, w⟩ :: r ∧ linked (stepT G) [⟨b, d, w⟩] r ∧ ∀ v ∈ vs, inW m (v.f0, v.f1) ∧ 0 < v.f2 ∧ v.f2 <= w) ?_ ?_ ?_ ?_ q a d w vs es hs hw h
 ·intro a d _
  exact .inl rfl
 ·intro a d w _ _ _
  exact .inl rfl
 ·intro a d w b vs es _ _ hw hb ⟨r, h1, h2, h3⟩
  exact .inr ⟨b, r, hw, hb, h1, h2, h3⟩
 ·intro a d w v1 v2 e1 e2 hin hw q1 q2
  obtain ⟨_, _, _, _, _, p1, p2⟩ := spread_sum (k := G.kd a) (Int.le_of_lt hw)
  have kin := hG.kin a hin.1 hin.2.1
  have here : ∀ v, v ∈ [(⟨a, d, w⟩ : TV)] -> inW m (v.f0, v.f1) ∧ 0 < v.f2 ∧ v.f2 <= w := by
   intro v hv
   obtain rfl := List.mem_singleton.1 hv
   exact ⟨hin, hw, Int.le_refl _⟩
  have part : ∀ (v : List TV) (d' w' : Int) (es : List TE), w' <= w -> (∀ b, G.nx a d' = some b -> 0 < w' -> stepT G ⟨a, d, w⟩ ⟨b, d', w'⟩) -> (v = [] ∨ ∃ b r, 0 < w' ∧ G.nx a d' = some b ∧ v = ⟨b, d', w'⟩ :: r ∧ linked (stepT G) [⟨b, d', w'⟩] r ∧ ∀ x ∈ v, inW m (x.f0, x.f1) ∧ 0 < x.f2 ∧ x.f2 <= w') -> linked (stepT G) [⟨a, d, w⟩] v ∧ ∀ x ∈ v, inW m (x.f0, x.f1) ∧ 0 < x.f2 ∧ x.f2 <= w := by
   intro v d' w' es hle hst hq
   rcases hq with rfl | ⟨b, r, hw', hb, rfl, hl, hall⟩
   ·exact ⟨trivial, fun x hx => by cases hx⟩
   ·refine ⟨⟨⟨_, List.mem_singleton.2 rfl, hst b hb hw'⟩, linked_mono r _ _ (fun x hx => ?_) hl⟩, fun x hx => ?_⟩
    ·obtain rfl := List.mem_singleton.1 hx
     exact List.mem_cons_self
    ·obtain ⟨x1, x2, x3⟩ := hall x hx
     exact ⟨x1, x2, by omega⟩
  have c1 := part v1 d _ e1 p1 (fun b hb hw' => by
   unfold Yf at hw' ⊢
   by_cases k0 : G.kd a = 0
   ·refine ⟨by show ¬ (G.kd a = 1 ∨ G.kd a = 7); omega, ?_, .inl ⟨?_, ?_⟩⟩
    ·show (if G.kd a = 6 ∨ G.kd a = 4 ∨ G.kd a = 5 then Int.tdiv w 2 else w) = _
     rw [if_neg (by omega), if_pos k0]
    ·show G.nx a (G.tn (G.kd a) d) = some b
     rw [hG.t0 (G.kd a) d hin.2.2.1 hin.2.2.2 (by omega)]
     exact hb
    ·exact (show G.tn (G.kd a) d = d from hG.t0 (G.kd a) d hin.2.2.1 hin.2.2.2 (by omega)).symm
   ·rw [if_neg k0] at hw' ⊢
    by_cases k1 : G.kd a = 1 ∨ G.kd a = 7
    ·rw [if_pos k1] at hw'
     exact absurd hw' (by simp)
    ·rw [if_neg k1] at hw' ⊢
     by_cases k2 : G.kd a = 2 ∨ G.kd a = 3
     ·rw [if_pos k2] at hw'
      exact absurd hw' (by simp)
     ·rw [if_neg k2] at hw' ⊢
      by_cases k4 : G.kd a = 4 ∨ G.kd a = 5
      ·rw [if_pos k4]
       refine ⟨k1, ?_, .inr ⟨k4, hb, rfl⟩⟩
       show (if G.kd a = 6 ∨ G.kd a = 4 ∨ G.kd a = 5 then Int.tdiv w 2 else w) = _
       rw [if_pos (by omega)]
      ·rw [if_neg k4]
       refine ⟨k1, ?_, .inl ⟨?_, ?_⟩⟩
       ·show (if G.kd a = 6 ∨ G.kd a = 4 ∨ G.kd a = 5 then Int.tdiv w 2 else w) = _
        rw [if_pos (by omega)]
       ·show G.nx a (G.tn (G.kd a) d) = some b
        rw [hG.t0 (G.kd a) d hin.2.2.1 hin.2.2.2 (by omega)]
        exact hb
       ·exact (show G.tn (G.kd a) d = d from hG.t0 (G.kd a) d hin.2.2.1 hin.2.2.2 (by omega)).symm) q1
  have c2 := part v2 (G.tn (G.kd a) d) _ e2 p2 (fun b hb hw' => by
   unfold Yf at hw' ⊢
   by_cases k0 : G.kd a = 0
   ·rw [if_pos k0] at hw'
    exact absurd hw' (by simp)
   ·rw [if_neg k0] at hw' ⊢
    by_cases k1 : G.kd a = 1 ∨ G.kd a = 7
    ·rw [if_pos k1] at hw'
     exact absurd hw' (by simp)
    ·rw [if_neg k1] at hw' ⊢
     by_cases k2 : G.kd a = 2 ∨ G.kd a = 3
     ·rw [if_pos k2]
      refine ⟨k1, ?_, .inl ⟨hb, rfl⟩⟩
      show (if G.kd a = 6 ∨ G.kd a = 4 ∨ G.kd a = 5 then Int.tdiv w 2 else w) = _
      rw [if_neg (by omega)]
     ·rw [if_neg k2] at hw' ⊢
      by_cases k4 : G.kd a = 4 ∨ G.kd a = 5
      ·rw [if_pos k4]
       refine ⟨k1, ?_, .inl ⟨hb, rfl⟩⟩
       show (if G.kd a = 6 ∨ G.kd a = 4 ∨ G.kd a = 5 then Int.tdiv w 2 else w) = _
       rw [if_pos (by omega)]
      ·rw [if_neg k4] at hw'
       exact absurd hw' (by simp)) q2
  refine ⟨_, rfl, linked_app _ _ _ c1.1 c2.1, fun v hv => ?_⟩
  rcases List.mem_cons.1 hv with rfl | hv
  ·exact ⟨hin, hw, Int.le_refl _⟩
  ·rcases List.mem_append.1 hv with hv | hv
   ·exact c1.2 v hv
   ·exact c2.2 v hv
def condB (n : Int) (l : List S42) (u v : TV) : Bool :=
 (!(decide ((Qx l u.f0).f0 = 1) || decide ((Qx l u.f0).f0 = 7))) && (decide ((if (Qx l u.f0).f0 = 6 ∨ (Qx l u.f0).f0 = 4 ∨ (Qx l u.f0).f0 = 5 then Int.tdiv u.f2 2 else u.f2) = v.f2) &&
 (((stepOf n l.length u.f0 (Ya (Qx l u.f0).f0 u.f1)).2.2 && ((stepOf n l.length u.f0 (Ya (Qx l u.f0).f0 u.f1)).1 == v.f0 && ((stepOf n l.length u.f0 (Ya (Qx l u.f0).f0 u.f1)).2.1 == v.f1))) ||
 ((decide ((Qx l u.f0).f0 = 4) || decide ((Qx l u.f0).f0 = 5)) && ((stepOf n l.length u.f0 u.f1).2.2 && ((stepOf n l.length u.f0 u.f1).1 == v.f0 && ((stepOf n l.length u.f0 u.f1).2.1 == v.f1))))))
theorem stepOf_dir {n : Int} {m : Nat} {a d : Int} (h : (stepOf n m a d).2.2 = true) (hd : 0 <= d) (hd3 : d < 4) : (stepOf n m a d).2.1 = d := by
 have : d = 0 ∨ d = 1 ∨ d = 2 ∨ d = 3 := by omega
 unfold stepOf at h ⊢
 rcases this with rfl | rfl | rfl | rfl
 ·rw [if_pos rfl] at h ⊢
  split
  ·rfl
  ·rename_i c
   rw [if_neg c] at h
   all_goals cases h
 ·rw [if_neg (by decide), if_pos rfl] at h ⊢
  split
  ·rfl
  ·rename_i c
   rw [if_neg c] at h
   all_goals cases h
 ·rw [if_neg (by decide), if_neg (by decide), if_pos rfl] at h ⊢
  split
  ·rfl
  ·rename_i c
   rw [if_neg c] at h
   all_goals cases h
 ·rw [if_neg (by decide), if_neg (by decide), if_neg (by decide)] at h ⊢
  split
  ·rfl
  ·rename_i c
   rw [if_neg c] at h
   all_goals cases h
theorem nx_step {n : Int} {l : List S42} {a d b : Int} (h : (Xf n l).nx a d = some b) (hd : 0 <= d) (hd3 : d < 4) : (stepOf n l.length a d).2.2 = true ∧ (stepOf n l.length a d).1 = b ∧ (stepOf n l.length a d).2.1 = d := by
 have h' : nxB n l.length a d = some b := h
 unfold nxB at h'
 by_cases c : (stepOf n l.length a d).2.2 = true
 ·rw [if_pos c] at h'
  exact ⟨c, Option.some.inj h', stepOf_dir c hd hd3⟩
 ·rw [if_neg c] at h'
  cases h'
theorem cond_of {n : Int} {l : List S42} {u v : TV} (h : stepT (Xf n l) u v) (hd : 0 <= u.f1) (hd3 : u.f1 < 4) : condB n l u v = true := by
 obtain ⟨h1, h2, h3⟩ := h
 have h1' : ¬ ((Qx l u.f0).f0 = 1 ∨ (Qx l u.f0).f0 = 7) := h1
 have h2' : (if (Qx l u.f0).f0 = 6 ∨ (Qx l u.f0).f0 = 4 ∨ (Qx l u.f0).f0 = 5 then Int.tdiv u.f2 2 else u.f2) = v.f2 := h2
 unfold condB
 rw [Bool.and_eq_true, Bool.and_eq_true, Bool.or_eq_true]
 refine ⟨by simpa using h1', decide_eq_true h2', ?_⟩
 rcases h3 with ⟨e1, e2⟩ | ⟨k4, e1, e2⟩
 ·obtain ⟨t0, t1⟩ := turn_in (Qx l u.f0).f0 u.f1 hd hd3
  have e1' : (Xf n l).nx u.f0 (Ya (Qx l u.f0).f0 u.f1) = some v.f0 := e1
  have e2' : v.f1 = Ya (Qx l u.f0).f0 u.f1 := e2
  obtain ⟨s1, s2, s3⟩ := nx_step e1' t0 t1
  left
  rw [s1, s2, s3, e2']
  simp
 ·have k4' : (Qx l u.f0).f0 = 4 ∨ (Qx l u.f0).f0 = 5 := k4
  obtain ⟨s1, s2, s3⟩ := nx_step e1 hd hd3
  right
  rw [s1, s2, s3, e2]
  rcases k4' with k | k <;> simp [k]
theorem dirTurn_f {k d : Int} (hd : 0 <= d) (hd3 : d < 4) : Yc.f k d = some (Ya k d) := by
 unfold Yc.f
 rw [if_pos ⟨hd, by omega⟩]
theorem rayNext_f {i j : Nat} (hi : i < 5) (hj : j < 5) {l : List S42} (ho : okG i j l) {a d : Int} (ha : 0 <= a) (hal : a < (l.length : Int)) (hd : 0 <= d) (hd3 : d < 4) (k : Nat) (hk : 100 < k) : Ww.f k ((i + 1 : Nat) : Int) l a d = some (stepOf ((i + 1 : Nat) : Int) l.length a d) := by
 have hm := okG_25 hi hj ho
 rw [impl_RayNext_some _ l a d (by omega) k (by omega)]
 unfold rayNext
 rw [if_pos ⟨okG_grid hi hj ho, ha, hal, hd, by omega⟩]
theorem step_j6 (n : Int) (l : List S42) (vs : List TV) (i : Nat) (hlen : vs.length <= 12700) (hi : i < vs.length) (p : Nat) (hp : p < i) (b : Bool) (w' : Int) (s1 s2 : Int × Int × Bool) (g st : Bool) (k : Nat) : Qg.j6 (k + 2) vs (i : Int) b (p : Int) w' s1.2.2 s2.2.2 g st n l s1.1 s1.2.1 s2.1 s2.2.1 (vs[i].f0) (vs[i].f1) = Qg.l1 k vs (i : Int) (b || (!st && (decide (w' = vs[i].f2) && ((s1.2.2 && (s1.1 == vs[i].f0 && (s1.2.1 == vs[i].f1))) || (g && (s2.2.2 && (s2.1 == vs[i].f0 && (s2.2.1 == vs[i].f1)))))))) ((p : Int) + 1) n l := by
 have j7 : ∀ x, Qg.j7 (k + 1) vs (i : Int) x (p : Int) n l = Qg.l1 k vs (i : Int) x ((p : Int) + 1) n l := by
  intro x
  rw [Qg.j7, w64 ((p : Int) + 1) (by omega) (by omega)]
 rw [Qg.j6]
 cases b with
 | true =>
  rw [if_pos rfl, j7, Bool.true_or]
 | false =>
  rw [if_neg (by decide), Bool.false_or]
  cases st with
  | true =>
   rw [if_pos rfl, j7]
   rfl
  | false =>
   rw [if_neg (by decide), if_pos (show (0 : Int) <= (i : Int) by omega), if_pos (show (i : Int) < (vs.length : Int) by omega), llVisit_rd vs i hi, Bool.not_false, Bool.true_and]
   by_cases c : w' = vs[i].f2
   ·rw [if_pos c, decide_eq_true c, Bool.true_and]
    have tail : (if g = true then (if s2.2.2 = true then Qg.j7 (k + 1) vs (i : Int) (s2.1 == vs[i].f0 && (s2.2.1 == vs[i].f1)) (p : Int) n l else Qg.j7 (k + 1) vs (i : Int) false (p : Int) n l) else Qg.j7 (k + 1) vs (i : Int) false (p : Int) n l) = Qg.l1 k vs (i : Int) (g && (s2.2.2 && (s2.1 == vs[i].f0 && (s2.2.1 == vs[i].f1)))) ((p : Int) + 1) n l := by
     cases g with
     | true =>
      rw [if_pos rfl, Bool.true_and]
      cases hh : s2.2.2 with
      | true => rw [if_pos rfl, j7, Bool.true_and]
      | false => rw [if_neg (by decide), j7, Bool.false_and]
     | false => rw [if_neg (by decide), j7, Bool.false_and]
    cases h1 : s1.2.2 with
    | true =>
     rw [if_pos rfl, Bool.true_and]
     by_cases e : (s1.1 == vs[i].f0 && (s1.2.1 == vs[i].f1)) = true
     ·rw [if_pos e, j7, e, Bool.true_or]
     ·rw [if_neg e, tail, Bool.eq_false_iff.mpr e, Bool.false_or]
    | false =>
     rw [if_neg (by decide), tail, Bool.false_and, Bool.false_or]
   ·rw [if_neg c, j7, decide_eq_false c, Bool.false_and]
theorem step_l1 {i j : Nat} (hi : i < 5) (hj : j < 5) {l : List S42} (ho : okG i j l) (vs : List TV) (hlen : vs.length <= 12700) (hin : ∀ v ∈ vs, inW l.length (v.f0, v.f1) ∧ 0 < v.f2 ∧ v.f2 <= 64) (q : Nat) (hq : q < vs.length) (p : Nat) (hp : p < q) (b : Bool) (k : Nat) (hk : 200 < k) : Qg.l1 (k + 6) vs (q : Int) b (p : Int) ((i + 1 : Nat) : Int) l = Qg.l1 k vs (q : Int) (b || condB ((i + 1 : Nat) : Int) l vs[p] vs[q]) ((p : Int) + 1) ((i + 1 : Nat) : Int) l := by
 have hpl : p < vs.length := by omega
 obtain ⟨⟨u0, u1, u2, u3⟩, u4, u5⟩ := hin vs[p] (List.getElem_mem hpl)
 dsimp only at u0 u1 u2 u3
 have hb0 : (0 : Int) <= (p : Int) := by omega
 have hb1 : (p : Int) < (vs.length : Int) := by omega
 have hb2 : (0 : Int) <= (q : Int) := by omega
 have hb3 : (q : Int) < (vs.length : Int) := by omega
 have hpq : (p : Int) < (q : Int) := by omega
 have hrp := llVisit_rd vs p hpl
 have hrq := llVisit_rd vs q hq
 obtain ⟨t0, t1⟩ := turn_in (Qx l vs[p].f0).f0 vs[p].f1 u2 u3
 have j4 : ∀ w', Qg.j4 (k + 4) vs (q : Int) b (p : Int) (Qx l vs[p].f0).f0 w' ((i + 1 : Nat) : Int) l = Qg.l1 k vs (q : Int) (b || (!(decide ((Qx l vs[p].f0).f0 = 1) || decide ((Qx l vs[p].f0).f0 = 7)) && (decide (w' = vs[q].f2) && (((stepOf ((i + 1 : Nat) : Int) l.length vs[p].f0 (Ya (Qx l vs[p].f0).f0 vs[p].f1)).2.2 && ((stepOf ((i + 1 : Nat) : Int) l.length vs[p].f0 (Ya (Qx l vs[p].f0).f0 vs[p].f1)).1 == vs[q].f0 && ((stepOf ((i + 1 : Nat) : Int) l.length vs[p].f0 (Ya (Qx l vs[p].f0).f0 vs[p].f1)).2.1 == vs[q].f1))) || ((decide ((Qx l vs[p].f0).f0 = 4) || decide ((Qx l vs[p].f0).f0 = 5)) && ((stepOf ((i + 1 : Nat) : Int) l.length vs[p].f0 vs[p].f1).2.2 && ((stepOf ((i + 1 : Nat) : Int) l.length vs[p].f0 vs[p].f1).1 == vs[q].f0 && ((stepOf ((i + 1 : Nat) : Int) l.length vs[p].f0 vs[p].f1).2.1 == vs[q].f1)))))))) ((p : Int) + 1) ((i + 1 : Nat) : Int) l := by
  intro w'
  have j5 : ∀ g : Bool, Qg.j5 (k + 3) vs (q : Int) b (p : Int) (Qx l vs[p].f0).f0 w' (stepOf ((i + 1 : Nat) : Int) l.length vs[p].f0 (Ya (Qx l vs[p].f0).f0 vs[p].f1)).2.2 (stepOf ((i + 1 : Nat) : Int) l.length vs[p].f0 vs[p].f1).2.2 g ((i + 1 : Nat) : Int) l (stepOf ((i + 1 : Nat) : Int) l.length vs[p].f0 (Ya (Qx l vs[p].f0).f0 vs[p].f1)).1 (stepOf ((i + 1 : Nat) : Int) l.length vs[p].f0 (Ya (Qx l vs[p].f0).f0 vs[p].f1)).2.1 (stepOf ((i + 1 : Nat) : Int) l.length vs[p].f0 vs[p].f1).1 (stepOf ((i + 1 : Nat) : Int) l.length vs[p].f0 vs[p].f1).2.1 vs[q].f0 vs[q].f1 = Qg.l1 k vs (q : Int) (b || (!(decide ((Qx l vs[p].f0).f0 = 1) || decide ((Qx l vs[p].f0).f0 = 7)) && (decide (w' = vs[q].f2) && (((stepOf ((i + 1 : Nat) : Int) l.length vs[p].f0 (Ya (Qx l vs[p].f0).f0 vs[p].f1)).2.2 && ((stepOf ((i + 1 : Nat) : Int) l.length vs[p].f0 (Ya (Qx l vs[p].f0).f0 vs[p].f1)).1 == vs[q].f0 && ((stepOf ((i + 1 : Nat) : Int) l.length vs[p].f0 (Ya (Qx l vs[p].f0).f0 vs[p].f1)).2.1 == vs[q].f1))) || (g && ((stepOf ((i + 1 : Nat) : Int) l.length vs[p].f0 vs[p].f1).2.2 && ((stepOf ((i + 1 : Nat) : Int) l.length vs[p].f0 vs[p].f1).1 == vs[q].f0 && ((stepOf ((i + 1 : Nat) : Int) l.length vs[p].f0 vs[p].f1).2.1 == vs[q].f1)))))))) ((p : Int) + 1) ((i + 1 : Nat) : Int) l := by
   intro g
   have j6 := fun st => step_j6 ((i + 1 : Nat) : Int) l vs q hlen hq p hp b w' (stepOf ((i + 1 : Nat) : Int) l.length vs[p].f0 (Ya (Qx l vs[p].f0).f0 vs[p].f1)) (stepOf ((i + 1 : Nat) : Int) l.length vs[p].f0 vs[p].f1) g st k
   rw [Qg.j5]
   by_cases c : (Qx l vs[p].f0).f0 = 1
   ·rw [if_pos c, j6, decide_eq_true c, Bool.true_or]
   ·rw [if_neg c, j6, decide_eq_false c, Bool.false_or]
    rfl
  rw [Qg.j4, if_pos hb0, if_pos hb1, hrp, dirTurn_f u2 u3, Option.bind_some, rayNext_f hi hj ho u0 u1 t0 t1 (k + 3) (by omega), Option.bind_some, rayNext_f hi hj ho u0 u1 u2 u3 (k + 3) (by omega), Option.bind_some, if_pos hb2, if_pos hb3, hrq]
  by_cases c : (Qx l vs[p].f0).f0 = 4
  ·rw [if_pos c, j5, decide_eq_true c, Bool.true_or]
  ·rw [if_neg c, j5, decide_eq_false c, Bool.false_or]
   rfl
 have hw2 : wrap64 (Int.tdiv vs[p].f2 2) = Int.tdiv vs[p].f2 2 := by
  have := halfT (Int.le_of_lt u4)
  exact w64 _ (by omega) (by omega)
 unfold condB
 have j3 : ∀ g : Bool, Qg.j3 (k + 5) vs (q : Int) b (p : Int) (Qx l vs[p].f0).f0 vs[p].f2 g ((i + 1 : Nat) : Int) l = Qg.j4 (k + 4) vs (q : Int) b (p : Int) (Qx l vs[p].f0).f0 (if g = true then Int.tdiv vs[p].f2 2 else vs[p].f2) ((i + 1 : Nat) : Int) l := by
  intro g
  rw [Qg.j3]
  cases g with
  | true => rw [if_pos rfl, if_pos rfl, hw2]
  | false => rw [if_neg (by decide), if_neg (by decide)]
 rw [Qg.l1, if_pos hpq, if_pos hb0, if_pos hb1, hrp, if_pos u0, if_pos u1]
 by_cases c6 : (Qx l vs[p].f0).f0 = 6
 ·rw [if_pos c6, j3, j4, if_pos rfl, if_pos (.inl c6)]
 ·rw [if_neg c6]
  by_cases c4 : (Qx l vs[p].f0).f0 = 4
  ·rw [if_pos c4, j3, j4, if_pos rfl, if_pos (.inr (.inl c4))]
  ·rw [if_neg c4, j3, j4]
   by_cases c5 : (Qx l vs[p].f0).f0 = 5
   ·rw [if_pos (by rw [c5]; rfl), if_pos (.inr (.inr c5))]
   ·rw [if_neg (by simpa using c5), if_neg (by omega)]
theorem step_run {i j : Nat} (hi : i < 5) (hj : j < 5) {l : List S42} (ho : okG i j l) (vs : List TV) (hlen : vs.length <= 12700) (hin : ∀ v ∈ vs, inW l.length (v.f0, v.f1) ∧ 0 < v.f2 ∧ v.f2 <= 64) (q : Nat) (hq : q < vs.length) : ∀ (r k p : Nat) (b : Bool), p + r = q -> 6 * r + 300 < k -> (b = true ∨ ∃ m, ∃ hm : m < q, p <= m ∧ condB ((i + 1 : Nat) : Int) l (vs[m]'(by omega)) vs[q] = true) -> Qg.l1 k vs (q : Int) b (p : Int) ((i + 1 : Nat) : Int) l = Qg.l0 (k - 6 * r - 1) vs ((q : Int) + 1) ((i + 1 : Nat) : Int) l
 | 0, k, p, b, hp, hk, hb => by
  obtain ⟨k, rfl⟩ : ∃ m, k = m + 1 := ⟨k - 1, by omega⟩
  have hb' : b = true := by
   rcases hb with h | ⟨m, hm, h1, _⟩
   ·exact h
   ·omega
  have hk' : k + 1 - 6 * 0 - 1 = k := by omega
  rw [Qg.l1, if_neg (by omega), if_pos hb', w64 ((q : Int) + 1) (by omega) (by omega), hk']
 | r + 1, k, p, b, hp, hk, hb => by
  obtain ⟨k, rfl⟩ : ∃ m, k = m + 6 := ⟨k - 6, by omega⟩
  have ih := step_run hi hj ho vs hlen hin q hq r k (p + 1) (b || condB ((i + 1 : Nat) : Int) l (vs[p]'(by omega)) vs[q]) (by omega) (by omega) (by
   rcases hb with h | ⟨m, hm, h1, h2⟩
   ·left
    rw [h, Bool.true_or]
   ·by_cases e : m = p
    ·subst e
     left
     rw [h2, Bool.or_true]
    ·exact .inr ⟨m, hm, by omega, h2⟩)
  rw [show ((p + 1 : Nat) : Int) = (p : Int) + 1 from by omega] at ih
  have hk' : k + 6 - 6 * (r + 1) - 1 = k - 6 * r - 1 := by omega
  rw [step_l1 hi hj ho vs hlen hin q hq p (by omega) b k (by omega), ih, hk']
theorem step_l0 {i j : Nat} (hi : i < 5) (hj : j < 5) {l : List S42} (ho : okG i j l) (vs : List TV) (hlen : vs.length <= 12700) (hin : ∀ v ∈ vs, inW l.length (v.f0, v.f1) ∧ 0 < v.f2 ∧ v.f2 <= 64) (hall : ∀ q (hq : q < vs.length), 1 <= q -> ∃ m, ∃ hm : m < q, condB ((i + 1 : Nat) : Int) l (vs[m]'(by omega)) vs[q] = true) : ∀ (r k q : Nat), q + r = vs.length -> 1 <= q -> 80000 * r + 300 < k -> Qg.l0 k vs (q : Int) ((i + 1 : Nat) : Int) l = some true
 | 0, k, q, hq, h1, hk => by
  obtain ⟨k, rfl⟩ : ∃ m, k = m + 1 := ⟨k - 1, by omega⟩
  rw [Qg.l0, if_neg (by omega)]
 | r + 1, k, q, hq, h1, hk => by
  obtain ⟨k, rfl⟩ : ∃ m, k = m + 1 := ⟨k - 1, by omega⟩
  have hlt : q < vs.length := by omega
  obtain ⟨m, hm, hc⟩ := hall q hlt h1
  have run := step_run hi hj ho vs hlen hin q hlt q k 0 false (by omega) (by omega) (.inr ⟨m, hm, Nat.zero_le m, hc⟩)
  rw [show ((0 : Nat) : Int) = 0 from rfl] at run
  have ih := step_l0 hi hj ho vs hlen hin hall r (k - 6 * q - 1) (q + 1) (by omega) (by omega) (by omega)
  rw [show ((q + 1 : Nat) : Int) = (q : Int) + 1 from by omega] at ih
  rw [Qg.l0, if_pos (by omega), run, ih]
theorem trail_steps {i j : Nat} (hi : i < 5) (hj : j < 5) {l : List S42} (ho : okG i j l) {a : Int} (h0 : 0 <= a) (h1 : a < (sN i j : Int)) : (∀ v ∈ (Xj ((i + 1 : Nat) : Int) l a).1, inW l.length (v.f0, v.f1) ∧ 0 < v.f2 ∧ v.f2 <= 64) ∧ ∀ q (hq : q < (Xj ((i + 1 : Nat) : Int) l a).1.length), 1 <= q -> ∃ m, ∃ hm : m < q, condB ((i + 1 : Nat) : Int) l ((Xj ((i + 1 : Nat) : Int) l a).1[m]'(by omega)) ((Xj ((i + 1 : Nat) : Int) l a).1[q]) = true := by
 obtain ⟨ec, _, _⟩ := trailP_of hi hj ho h0 h1
 have hG := way_ok hi hj ho
 obtain ⟨r, e, hl, hin⟩ := come_linked hG 1000 (Yi ((i + 1 : Nat) : Int) l.length a).1 (Yi ((i + 1 : Nat) : Int) l.length a).2 64 (Xj ((i + 1 : Nat) : Int) l a).1 (Xj ((i + 1 : Nat) : Int) l a).2 (sight_in hi hj ho h0 h1).1 (by decide) ec
 refine ⟨hin, ?_⟩
 have key : ∀ vs : List TV, vs = ⟨(Yi ((i + 1 : Nat) : Int) l.length a).1, (Yi ((i + 1 : Nat) : Int) l.length a).2, 64⟩ :: r -> (∀ v ∈ vs, inW l.length (v.f0, v.f1) ∧ 0 < v.f2 ∧ v.f2 <= 64) -> ∀ q (hq : q < vs.length), 1 <= q -> ∃ m, ∃ hm : m < q, condB ((i + 1 : Nat) : Int) l (vs[m]'(by omega)) (vs[q]) = true := by
  intro vs e hin q hq hq1
  subst e
  obtain ⟨q, rfl⟩ : ∃ m, q = m + 1 := ⟨q - 1, by omega⟩
  obtain ⟨m, hm, g1, g2⟩ := linked_at r [⟨(Yi ((i + 1 : Nat) : Int) l.length a).1, (Yi ((i + 1 : Nat) : Int) l.length a).2, 64⟩] q (by simpa using hq) hl
  refine ⟨m, by simpa [Nat.add_comm] using g1, ?_⟩
  have hu := (hin _ (List.getElem_mem (by simpa using hm))).1
  exact cond_of g2 hu.2.2.1 hu.2.2.2
 exact key _ e hin
theorem FnTrailStep : Qg.Pure := by
 intro l0 _ _ hw
 obtain ⟨K, hK⟩ : ∃ K : Nat, 2000000000 <= K := ⟨2000000000, Nat.le_refl _⟩
 refine ⟨K + 1, ?_⟩
 unfold Qg.f
 by_cases hb : (l0.length : Int) > 1048576
 ·rw [if_pos hb]
 rw [if_neg hb]
 obtain ⟨n, l, a, e, hl⟩ := drawSightRay_some l0 (bytes_of hw) (K + 1) (by omega)
 have e' : Ym.f (K + 1) l0 = some (n, l, a) := by
  unfold Ym.f
  rw [e]
  rfl
 have hlen := trailP_len n l a
 have I := impl_TrailVisits_some n l a (by omega) (K + 1) (by omega)
 have S1 := spec_TrailVisits_some n l a (by omega) (K + 1) (by omega)
 have S2 := spec_TrailVisits_some n l a (by omega) K (by omega)
 have L1 := llVisits_same (Xj n l a).1 (show (Xj n l a).1.length <= 1099511627776 by omega) (K + 1) (by omega)
 have L2 := llVisits_same (Xj n l a).1 (show (Xj n l a).1.length <= 1099511627776 by omega) K (by omega)
 have L3 := llSight_some n l a (by omega) (K + 1) (by omega)
 rw [e', Option.bind_some, I, Option.bind_some, S1, Option.bind_some, L1, Option.bind_some, if_pos rfl, L3, Option.bind_some]
 by_cases hg : Yo n l = true ∧ 0 <= a ∧ a < Xk n l.length
 ·rw [decide_eq_true hg, Qg.j0, if_neg (by decide)]
  obtain ⟨hg, h0, h1⟩ := hg
  obtain ⟨i, j, hi, hj, rfl, ho⟩ := okG_of hg
  have hsi := sights_ij i j hi hj
  rw [<- ho.1] at hsi
  obtain ⟨hin, hall⟩ := trail_steps hi hj ho h0 (show a < (sN i j : Int) by omega)
  by_cases hz : 1 <= (Xj ((i + 1 : Nat) : Int) l a).1.length
  ·have := step_l0 hi hj ho (Xj ((i + 1 : Nat) : Int) l a).1 (by omega) hin hall ((Xj ((i + 1 : Nat) : Int) l a).1.length - 1) K 1 (by omega) (by omega) (by omega)
   exact this
  ·obtain ⟨K, rfl⟩ : ∃ m, K = m + 1 := ⟨K - 1, by omega⟩
   rw [Qg.l0, if_neg (by omega)]
 ·rw [decide_eq_false hg, Qg.j0, if_pos (show (!false) = true from rfl), S2, Option.bind_some, L2, Option.bind_some]
end Go.Proofs.Yteapnipnoadejaa.Pure
