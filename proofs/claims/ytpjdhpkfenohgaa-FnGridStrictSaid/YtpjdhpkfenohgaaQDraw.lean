/- PROVED: a drawn grid is a grid of at most 26 cells. Condition: the code is bytes. -/
import Derived.Test.YtpjdhpkfenohgaaPx22
import Derived.Test.YtpjdhpkfenohgaaPx19
import Derived.Test.YtpjdhpkfenohgaaPx21
import Derived.Test.YtpjdhpkfenohgaaPx18
import Derived.Test.YtpjdhpkfenohgaaQPick
namespace Go.Proofs.Ytpjdhpkfenohgaa.P
open Go.RowKit Go.Proofs.YtpjdhpkfenohgaaW.PrintWords Go.Proofs.YtpjdhpkfenohgaaW.PrintLast Go.Proofs.YtpjdhpkfenohgaaW.PrintMore
set_option linter.unusedVariables false
set_option linter.unusedSimpArgs false

def Small (x : Int) : Prop := -2 ≤ x ∧ x ≤ 100
theorem pick_at (s : List Int) (hs : Bytes s) (p n : Int) (hp : 0 ≤ p) (hp1 : p ≤ 1000000000) (k : Nat) (hk : 0 < k) :
    ∃ v, spec_l6Rd_pick.f k s p n = some (v, p + 1) ∧ 0 ≤ v ∧ (1 ≤ n → v < n) := by
  obtain ⟨k, rfl⟩ : ∃ m, k = m + 1 := ⟨k - 1, by omega⟩
  exact pick_some s hs p n hp hp1 k
theorem off_some (s : List Int) (hs : Bytes s) (p : Int) (hp : 0 ≤ p) (hp1 : p ≤ 1000000000) (k : Nat) (hk : 0 < k) :
    ∃ c d, spec_l71Off.f k s p = some (c, d, p + 1) ∧ Small c ∧ Small d := by
  unfold spec_l71Off.f
  obtain ⟨v, e, h0, h1⟩ := pick_at s hs p 6 hp hp1 k hk
  have h1 := h1 (by omega)
  simp only [Option.bind_some, e]
  rw [if_pos h0, if_pos (by simp; omega)]
  refine ⟨_, _, rfl, ?_⟩
  have : v = 0 ∨ v = 1 ∨ v = 2 ∨ v = 3 ∨ v = 4 ∨ v = 5 := by omega
  rcases this with rfl | rfl | rfl | rfl | rfl | rfl <;> (constructor <;> (unfold Small; decide))
theorem cellDraw_some (s : List Int) (hs : Bytes s) (p : Int) (hp : 0 ≤ p) (hp1 : p ≤ 900000000) (k : Nat) (hk : 2 < k) :
    ∃ c d p', spec_l71Cell.f k s p = some (c, d, p') ∧ p ≤ p' ∧ p' ≤ p + 2 ∧ Small c ∧ Small d := by
  obtain ⟨k, rfl⟩ : ∃ m, k = m + 2 := ⟨k - 2, by omega⟩
  unfold spec_l71Cell.f
  obtain ⟨v, e, h0, h1⟩ := pick_at s hs p 12 hp (by omega) (k + 2) (by omega)
  have h1 := h1 (by omega)
  rw [e]
  obtain ⟨u, e, g0, g1⟩ := pick_at s hs (p + 1) 9 (by omega) (by omega) k (by omega)
  have g1 := g1 (by omega)
  have ew : wrap64 (1 + u) = 1 + u := w64 _ (by omega) (by omega)
  have A1 : ∀ b, ∃ c d p', spec_l71Cell.j1 (k + 1) v b s (p + 1) = some (c, d, p') ∧ p ≤ p' ∧ p' ≤ p + 2 ∧ Small c ∧ Small d := by
    intro b
    simp only [spec_l71Cell.j1, e, Option.bind_some, ew]
    repeat' split
    all_goals exact ⟨_, _, _, rfl, by omega, by omega, by unfold Small; omega, by unfold Small; omega⟩
  have A0 : ∀ b, ∃ c d p', spec_l71Cell.j0 (k + 2) v b s (p + 1) = some (c, d, p') ∧ p ≤ p' ∧ p' ≤ p + 2 ∧ Small c ∧ Small d := by
    intro b
    simp only [spec_l71Cell.j0]
    split
    · exact ⟨_, _, _, rfl, by omega, by omega, by unfold Small; omega, by unfold Small; omega⟩
    · split
      · exact A1 _
      · exact A1 _
  simp only [Option.bind_some]
  split
  · exact ⟨_, _, _, rfl, by omega, by omega, by unfold Small; omega, by unfold Small; omega⟩
  · split
    · exact A0 _
    · exact A0 _
theorem gridDraw_l0 (s : List Int) (hs : Bytes s) (n : Int) : ∀ (m k : Nat) (p : Int) (acc : List S39), 0 ≤ p → p + 2 * (m : Int) ≤ 900000000 → m + 3 < k → acc.length + m < 1000000 →
    ∃ l p', spec_l71Grid.l0 k (m : Int) s p n acc = some (n, l, p') ∧ l.length = acc.length + m ∧ p ≤ p' ∧ p' ≤ p + 2 * (m : Int)
  | 0, k, p, acc, hp, hq, hk, ha => by
    obtain ⟨k, rfl⟩ : ∃ m, k = m + 1 := ⟨k - 1, by omega⟩
    simp only [spec_l71Grid.l0]
    rw [if_neg (by omega)]
    exact ⟨_, _, rfl, by omega, by omega, by omega⟩
  | m + 1, k, p, acc, hp, hq, hk, ha => by
    obtain ⟨k, rfl⟩ : ∃ m, k = m + 1 := ⟨k - 1, by omega⟩
    simp only [spec_l71Grid.l0]
    rw [if_pos (by omega)]
    obtain ⟨c, d, p', e, h1, h2, _, _⟩ := cellDraw_some s hs p hp (by omega) k (by omega)
    rw [e]
    simp only [Option.bind_some]
    rw [if_pos (by omega), w64 _ (by omega) (by omega), show ((m + 1 : Nat) : Int) - 1 = (m : Int) from by omega]
    obtain ⟨l, q, e, g1, g2, g3⟩ := gridDraw_l0 s hs n m k p' (acc ++ [⟨c, d⟩]) (by omega) (by omega) (by omega) (by simp; omega)
    rw [e]
    exact ⟨l, q, rfl, by simp at g1; omega, by omega, by omega⟩
theorem gridDraw_some (s : List Int) (hs : Bytes s) (p : Int) (hp : 0 ≤ p) (hp1 : p ≤ 800000000) (k : Nat) (hk : 40 < k) :
    ∃ n l p', spec_l71Grid.f k s p = some (n, l, p') ∧ 1 ≤ n ∧ n ≤ 5 ∧ 1 ≤ l.length ∧ l.length ≤ 25 ∧ p ≤ p' ∧ p' ≤ p + 52 := by
  unfold spec_l71Grid.f
  obtain ⟨v, e, h0, h1⟩ := pick_at s hs p 5 hp (by omega) k (by omega)
  have h1 := h1 (by omega)
  rw [e]
  obtain ⟨u, e, g0, g1⟩ := pick_at s hs (p + 1) 5 (by omega) (by omega) k (by omega)
  have g1 := g1 (by omega)
  simp only [Option.bind_some, e]
  rw [w64 (1 + v) (by omega) (by omega), w64 (1 + u) (by omega) (by omega)]
  have hm : 1 ≤ (1 + v) * (1 + u) ∧ (1 + v) * (1 + u) ≤ 25 := by
    have : v = 0 ∨ v = 1 ∨ v = 2 ∨ v = 3 ∨ v = 4 := by omega
    rcases this with rfl | rfl | rfl | rfl | rfl <;> omega
  rw [w64 _ (by omega) (by omega)]
  generalize (1 + v) * (1 + u) = M at hm
  obtain ⟨m, rfl⟩ := Int.eq_ofNat_of_zero_le (show 0 ≤ M by omega)
  obtain ⟨l, q, e, f1, f2, f3⟩ := gridDraw_l0 s hs (1 + v) m k (p + 1 + 1) [] (by omega) (by omega) (by omega) (by simp; omega)
  rw [e]
  exact ⟨_, _, _, rfl, by omega, by omega, by simp at f1; omega, by simp at f1; omega, by omega, by omega⟩
theorem someDraw_l0 (s : List Int) (n : Int) (h1 : 1 ≤ n) (h5 : n ≤ 5) (p : Int) : ∀ (m k : Nat) (acc : List S39), (acc.length : Int) + (m : Int) = n * 5 + 1 → m < k →
    ∃ l, spec_l71Some.l0 k s p n acc = some (n, l, p) ∧ l.length ≤ 26
  | 0, k, acc, ha, hk => by
    obtain ⟨k, rfl⟩ : ∃ m, k = m + 1 := ⟨k - 1, by omega⟩
    simp only [spec_l71Some.l0]
    rw [w64 (n * 5) (by omega) (by omega), if_neg (by omega)]
    exact ⟨_, rfl, by omega⟩
  | m + 1, k, acc, ha, hk => by
    obtain ⟨k, rfl⟩ : ∃ m, k = m + 1 := ⟨k - 1, by omega⟩
    simp only [spec_l71Some.l0]
    rw [w64 (n * 5) (by omega) (by omega), if_pos (by omega), if_pos (by omega)]
    exact someDraw_l0 s n h1 h5 p m k (acc ++ [⟨0, 0⟩]) (by simp; omega) (by omega)
theorem someDraw_j (s : List Int) (n : Int) (h1 : 1 ≤ n) (h5 : n ≤ 5) (p : Int) (k : Nat) (hk : 40 < k) (acc : List S39) (ha : acc.length ≤ 25) :
    ∃ l, spec_l71Some.l0 k s p n acc = some (n, l, p) ∧ l.length ≤ 26 := by
  by_cases h : (acc.length : Int) ≤ n * 5 + 1
  · obtain ⟨m, hm⟩ := Int.eq_ofNat_of_zero_le (show 0 ≤ n * 5 + 1 - (acc.length : Int) by omega)
    exact someDraw_l0 s n h1 h5 p m k acc (by omega) (by omega)
  · obtain ⟨k, rfl⟩ : ∃ m, k = m + 1 := ⟨k - 1, by omega⟩
    simp only [spec_l71Some.l0]
    rw [w64 (n * 5) (by omega) (by omega), if_neg (by omega)]
    exact ⟨_, rfl, by omega⟩
theorem someDraw_some (s : List Int) (hs : Bytes s) (p : Int) (hp : 0 ≤ p) (hp1 : p ≤ 700000000) (k : Nat) (hk : 50 < k) :
    ∃ n l p', spec_l71Some.f k s p = some (n, l, p') ∧ -1 ≤ n ∧ n ≤ 6 ∧ l.length ≤ 26 ∧ p ≤ p' ∧ p' ≤ p + 60 := by
  unfold spec_l71Some.f
  obtain ⟨n, l, q, e, a1, a2, a3, a4, a5, a6⟩ := gridDraw_some s hs p hp (by omega) k (by omega)
  rw [e]
  simp only [Option.bind_some]
  obtain ⟨v, e, h0, h1⟩ := pick_at s hs q 24 (by omega) (by omega) k (by omega)
  have h1 := h1 (by omega)
  rw [e]
  simp only [Option.bind_some]
  split
  · exact ⟨_, _, _, rfl, by omega, by omega, by omega, by omega, by omega⟩
  · obtain ⟨u, e, g0, g1⟩ := pick_at s hs (q + 1) 5 (by omega) (by omega) k (by omega)
    rw [e]
    simp only [Option.bind_some]
    split
    · obtain ⟨x, e, b0, b1⟩ := pick_at s hs (q + 1 + 1) 3 (by omega) (by omega) k (by omega)
      have b1 := b1 (by omega)
      rw [e]
      simp only [Option.bind_some]
      rw [if_pos b0, if_pos (by simp; omega)]
      have : x = 0 ∨ x = 1 ∨ x = 2 := by omega
      rcases this with rfl | rfl | rfl
      · exact ⟨_, _, _, rfl, by decide, by decide, by omega, by omega, by omega⟩
      · exact ⟨_, _, _, rfl, by decide, by decide, by omega, by omega, by omega⟩
      · exact ⟨_, _, _, rfl, by decide, by decide, by omega, by omega, by omega⟩
    · split
      · rw [if_pos (by omega)]
        exact ⟨_, _, _, rfl, by omega, by omega, by simp; omega, by omega, by omega⟩
      · split
        · obtain ⟨x, e, b0, b1⟩ := pick_at s hs (q + 1 + 1) (l.length : Int) (by omega) (by omega) k (by omega)
          have b1 := b1 (by omega)
          rw [e]
          simp only [Option.bind_some]
          obtain ⟨c, d, e, _, _⟩ := off_some s hs (q + 1 + 1 + 1) (by omega) (by omega) k (by omega)
          rw [e]
          simp only [Option.bind_some]
          rw [if_pos b0, if_pos b1]
          exact ⟨_, _, _, rfl, by omega, by omega, by simp; omega, by omega, by omega⟩
        · split
          · obtain ⟨l', e, hl⟩ := someDraw_j s n a1 a2 (q + 1 + 1) k (by omega) l (by omega)
            rw [e]
            exact ⟨_, _, _, rfl, by omega, by omega, by omega, by omega, by omega⟩
          · exact ⟨_, _, _, rfl, by omega, by omega, by simp, by omega, by omega⟩
end Go.Proofs.Ytpjdhpkfenohgaa.P
