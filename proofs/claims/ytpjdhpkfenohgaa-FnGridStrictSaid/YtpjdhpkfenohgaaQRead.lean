/- PROVED: both GridRead functions read just the texts of grids, and read the grid. Condition: the text has at most 2^20 bytes. -/
import Derived.Test.YtpjdhpkfenohgaaPx35
import Derived.Test.YtpjdhpkfenohgaaPx32
import Derived.Test.YtpjdhpkfenohgaaQText
namespace Go.Proofs.Ytpjdhpkfenohgaa.P
open Go.RowKit Go.Proofs.YtpjdhpkfenohgaaW.PrintWords Go.Proofs.YtpjdhpkfenohgaaW.PrintLast Go.Proofs.YtpjdhpkfenohgaaW.PrintMore
set_option linter.unusedVariables false
set_option linter.unusedSimpArgs false
def noGrid : Int × List S39 × Bool := (0, [], false)
theorem rd_mid (a : List S39) (c : S39) (t : List S39) : rd_T39 (a ++ c :: t) (a.length : Int) = c := by
  rw [rd_at _ _ (by simp)]
  simp
theorem bt_lt (s : ByteArray) (i : Nat) (h : i < s.size) : ∃ b : Nat, b < 256 ∧ bt s (i : Int) = (b : Int) ∧ s.data.toList[i]'(show i < s.data.toList.length by rw [Array.length_toList]; exact h) = b.toUInt8 := by
  have := bt_get s i h
  refine ⟨_, UInt8.toNat_lt _, this, ?_⟩
  rw [Nat.toUInt8_eq, UInt8.ofNat_toNat]
theorem impl_read_l0 (N : Nat) (h1 : 1 ≤ N) (h5 : N ≤ 5) (s : ByteArray) (hs : s.size ≤ 30) : ∀ (r k i : Nat) (acc : List S39), i + r = s.size → r + 130 < k → acc.length = i - i / (N + 1) → acc.all okCell = true →
    ∃ res, impl_GridRead.l0 k s (N : Int) (s.size : Int) (i : Int) (N : Int) acc = some res ∧ (res = noGrid ∨ ∃ t : List S39, res = ((N : Int), acc ++ t, true) ∧ (acc ++ t).all okCell = true ∧ (acc ++ t).length = s.size - s.size / (N + 1) ∧ ∀ j (hj : j < s.data.toList.length), i ≤ j → s.data.toList[j] = chAt N (acc ++ t) j)
  | 0, k, i, acc, hi, hk, ha, hall => by
    obtain ⟨k, rfl⟩ : ∃ m, k = m + 1 := ⟨k - 1, by omega⟩
    simp only [impl_GridRead.l0]
    rw [if_neg (by omega)]
    refine ⟨_, rfl, .inr ⟨[], by simp, by simpa using hall, ?_, ?_⟩⟩
    · rw [List.append_nil, ha]
      have : i = s.size := by omega
      rw [this]
    · intro j hj hij
      have : s.data.toList.length = s.size := Array.length_toList
      omega
  | r + 1, k, i, acc, hi, hk, ha, hall => by
    obtain ⟨k, rfl⟩ : ∃ m, k = m + 1 := ⟨k - 1, by omega⟩
    have hsz : s.data.toList.length = s.size := Array.length_toList
    have hN : N = 1 ∨ N = 2 ∨ N = 3 ∨ N = 4 ∨ N = 5 := by omega
    have hlt : i < s.size := by omega
    obtain ⟨b, hb, hbt, hsb⟩ := bt_lt s i hlt
    have hc : Int.tmod (i : Int) ((N : Int) + 1) = (N : Int) ↔ i % (N + 1) = N := by
      rw [Int.tmod_eq_emod_of_nonneg (by omega)]
      rcases hN with rfl | rfl | rfl | rfl | rfl <;> omega
    simp only [impl_GridRead.l0]
    rw [if_pos (by omega), w64 ((N : Int) + 1) (by omega) (by omega), if_neg (by omega), w64 ((i : Int) + 1) (by omega) (by omega), hbt]
    have b1 : (0 : Int) ≤ (i : Int) := Int.natCast_nonneg i
    have b2 : (i : Int) < (s.size : Int) := by omega
    by_cases c : i % (N + 1) = N
    · rw [if_pos (hc.2 c), if_pos b1, if_pos b2]
      by_cases hb10 : (b : Int) = 10
      · rw [if_pos hb10]
        obtain ⟨res, e, hres⟩ := impl_read_l0 N h1 h5 s hs r k (i + 1) acc (by omega) (by omega) (by rcases hN with rfl | rfl | rfl | rfl | rfl <;> omega) hall
        rw [show ((i + 1 : Nat) : Int) = (i : Int) + 1 from by omega] at e
        refine ⟨res, e, hres.imp id ?_⟩
        rintro ⟨t, g1, g2, g3, g4⟩
        refine ⟨t, g1, g2, g3, fun j hj hij => ?_⟩
        by_cases hji : j = i
        · subst hji
          rw [hsb]
          unfold chAt
          rw [if_pos c, show b = 10 by omega]
        · exact g4 j hj (by omega)
      · rw [if_neg hb10]
        exact ⟨_, rfl, .inl rfl⟩
    · rw [if_neg (fun h => c (hc.1 h)), if_pos b1, if_pos b2, impl_cellRead_some b hb k (by omega)]
      simp only [Option.bind_some]
      by_cases hok : (rdC b).2.2 = true
      · have hfac := (cellRead_all b hb).2
        rw [if_pos hok] at hfac
        have hal : acc.length ≤ i := by rw [ha]; exact Nat.sub_le _ _
        rw [if_pos hok, if_pos (by omega)]
        obtain ⟨res, e, hres⟩ := impl_read_l0 N h1 h5 s hs r k (i + 1) (acc ++ [⟨(rdC b).1, (rdC b).2.1⟩]) (by omega) (by omega) (by rw [List.length_append, ha]; rcases hN with rfl | rfl | rfl | rfl | rfl <;> (simp only [List.length_cons, List.length_nil]; omega)) (by
          rw [List.all_append, hall]
          simpa [okCell] using hfac.1)
        rw [show ((i + 1 : Nat) : Int) = (i : Int) + 1 from by omega] at e
        refine ⟨res, e, hres.imp id ?_⟩
        rintro ⟨t, g1, g2, g3, g4⟩
        rw [List.append_assoc] at g1 g2 g3
        refine ⟨_, g1, g2, g3, fun j hj hij => ?_⟩
        by_cases hji : j = i
        · subst hji
          rw [hsb]
          unfold chAt
          rw [if_neg c, ← ha]
          unfold sgB
          rw [List.singleton_append, rd_mid, hfac.2, Int.toNat_natCast]
        · have := g4 j hj (by omega)
          rw [List.append_assoc] at this
          exact this
      · rw [if_neg hok]
        exact ⟨_, rfl, .inl rfl⟩
/-- Of a text the loop reads the grid. -/
theorem impl_read_yes (N R : Nat) (h1 : 1 ≤ N) (h5 : N ≤ 5) (l : List S39) (hall : l.all okCell = true) (s : ByteArray) (hl : l.length = N * R) (hs : s.size = l.length + R) (hR : R ≤ 5) (hat : ∀ j (hj : j < s.data.toList.length), s.data.toList[j] = chAt N l j) : ∀ (r k i : Nat), i + r = s.size → r + 130 < k →
    impl_GridRead.l0 k s (N : Int) (s.size : Int) (i : Int) (N : Int) (l.take (i - i / (N + 1))) = some ((N : Int), l, true)
  | 0, k, i, hi, hk => by
    obtain ⟨k, rfl⟩ : ∃ m, k = m + 1 := ⟨k - 1, by omega⟩
    simp only [impl_GridRead.l0]
    have hN : N = 1 ∨ N = 2 ∨ N = 3 ∨ N = 4 ∨ N = 5 := by omega
    rw [if_neg (by omega), List.take_of_length_le (by rcases hN with rfl | rfl | rfl | rfl | rfl <;> omega)]
  | r + 1, k, i, hi, hk => by
    obtain ⟨k, rfl⟩ : ∃ m, k = m + 1 := ⟨k - 1, by omega⟩
    have hsz : s.data.toList.length = s.size := Array.length_toList
    have hN : N = 1 ∨ N = 2 ∨ N = 3 ∨ N = 4 ∨ N = 5 := by omega
    have hlt : i < s.size := by omega
    have hs30 : s.size ≤ 30 := by rcases hN with rfl | rfl | rfl | rfl | rfl <;> omega
    have ih := impl_read_yes N R h1 h5 l hall s hl hs hR hat r k (i + 1) (by omega) (by omega)
    rw [show ((i + 1 : Nat) : Int) = (i : Int) + 1 from by omega] at ih
    have hbt := bt_get s i hlt
    rw [hat i (by omega)] at hbt
    have hc : Int.tmod (i : Int) ((N : Int) + 1) = (N : Int) ↔ i % (N + 1) = N := by
      rw [Int.tmod_eq_emod_of_nonneg (by omega)]
      rcases hN with rfl | rfl | rfl | rfl | rfl <;> omega
    simp only [impl_GridRead.l0]
    rw [if_pos (by omega), w64 ((N : Int) + 1) (by omega) (by omega), if_neg (by omega), w64 ((i : Int) + 1) (by omega) (by omega), hbt]
    have b1 : (0 : Int) ≤ (i : Int) := Int.natCast_nonneg i
    have b2 : (i : Int) < (s.size : Int) := by omega
    unfold chAt
    by_cases c : i % (N + 1) = N
    · rw [if_pos (hc.2 c), if_pos b1, if_pos b2, if_pos c, if_pos (show (((10 : Nat).toUInt8.toNat : Nat) : Int) = 10 from rfl)]
      rw [show i + 1 - (i + 1) / (N + 1) = i - i / (N + 1) by rcases hN with rfl | rfl | rfl | rfl | rfl <;> omega] at ih
      exact ih
    · have hq : i - i / (N + 1) < l.length := by rcases hN with rfl | rfl | rfl | rfl | rfl <;> omega
      have hsg := sg_lt hall hq
      have hok := sg_ok hall hq
      rw [rd_at l _ hq] at hok
      rw [if_neg (fun h => c (hc.1 h)), if_pos b1, if_pos b2, if_neg c, u8_nat hsg.1, impl_cellRead_some _ hsg.1 k (by omega)]
      simp only [Option.bind_some]
      have e : rdC (sgB l (i - i / (N + 1))) = (l[i - i / (N + 1)].f0, l[i - i / (N + 1)].f1, true) := by
        unfold sgB
        rw [rd_at l _ hq]
        exact rdC_sign hok
      rw [e]
      rw [if_pos rfl, if_pos (by rw [List.length_take]; omega)]
      rw [show i + 1 - (i + 1) / (N + 1) = i - i / (N + 1) + 1 by rcases hN with rfl | rfl | rfl | rfl | rfl <;> omega, List.take_succ_eq_append_getElem hq] at ih
      exact ih
theorem index_first (c : UInt8) : ∀ (l : List UInt8) (w : Nat) (hw : w < l.length), l[w] = c → (∀ j (hj : j < w), l[j]'(by omega) ≠ c) → Lib.indexByte l c = (w : Int)
  | [], w, hw, _, _ => by simp at hw
  | b :: l, w, hw, he, hn => by
    unfold Lib.indexByte
    cases w with
    | zero =>
      have : b = c := he
      rw [this, if_pos (by simp)]
      rfl
    | succ w =>
      have hb : b ≠ c := hn 0 (by omega)
      have ih := index_first c l w (by simpa using hw) (by simpa using he) (fun j hj => by simpa using hn (j + 1) (by omega))
      rw [if_neg (by simpa using hb), ih, if_neg (by first | (simp; done) | (simp; omega))]
      omega
theorem ten_ne {b : Nat} (hb : b < 256) (h : (b : Int) ≠ 10) : b.toUInt8 ≠ (10 : Nat).toUInt8 := by
  intro e
  have := congrArg UInt8.toNat e
  rw [u8_nat hb, u8_nat (by decide)] at this
  omega
theorem IsText.shape {N : Nat} {l : List S39} {s : ByteArray} (h : IsText N l s.data.toList) : ∃ R : Nat, 1 ≤ N ∧ N ≤ 5 ∧ 1 ≤ R ∧ R ≤ 5 ∧ l.length = N * R ∧ s.size = l.length + R ∧ l.all okCell = true ∧ ∀ j (hj : j < s.data.toList.length), s.data.toList[j] = chAt N l j := by
  obtain ⟨hg, hs⟩ := h
  obtain ⟨M, R, hM, h1, h5, r1, r5, hl, hd, hall⟩ := okB_shape hg
  obtain rfl : N = M := by omega
  have hsz : s.data.toList.length = s.size := Array.length_toList
  refine ⟨R, h1, h5, r1, r5, hl, ?_, hall, ?_⟩
  · rw [← hsz, hs, textL_len N h1 h5, hd]
  · intro j hj
    have hj' : j < (textL (N : Int) l l.length).length := by rw [← hs]; exact hj
    have := textL_at N h1 h5 l l.length j hj'
    rw [← this]
    simp only [hs]
/-- Of a text. -/
theorem impl_GridRead_yes {N : Nat} {l : List S39} {s : ByteArray} (h : IsText N l s.data.toList) (k : Nat) (hk : 300 < k) : impl_GridRead.f k s = some ((N : Int), l, true) := by
  obtain ⟨R, h1, h5, r1, r5, hl, hs, hall, hat⟩ := h.shape
  have hsz : s.data.toList.length = s.size := Array.length_toList
  have hN : N = 1 ∨ N = 2 ∨ N = 3 ∨ N = 4 ∨ N = 5 := by omega
  have hNs : N < s.data.toList.length := by
    rw [hsz, hs, hl]
    rcases hN with rfl | rfl | rfl | rfl | rfl <;> omega
  have hix : strings_IndexByte.f s 10 = some (N : Int) := by
    unfold strings_IndexByte.f
    congr 1
    refine index_first _ _ N hNs ?_ ?_
    · rw [hat N hNs]
      unfold chAt
      rw [if_pos (Nat.mod_eq_of_lt (by omega))]
      rfl
    · intro j hj
      rw [hat j (by omega)]
      unfold chAt
      rw [if_neg (by rw [Nat.mod_eq_of_lt (by omega)]; omega)]
      have hjl : j - j / (N + 1) < l.length := by rcases hN with rfl | rfl | rfl | rfl | rfl <;> omega
      have hsg := sg_lt hall hjl
      refine ten_ne hsg.1 ?_
      rw [hsg.2]
      exact signOf_ne (sg_ok hall hjl)
  obtain ⟨k, rfl⟩ : ∃ m, k = m + 1 := ⟨k - 1, by omega⟩
  unfold impl_GridRead.f
  rw [hix]
  simp only [Option.bind_some]
  rw [w64 ((N : Int) + 1) (by omega) (by omega), w64 (((N : Int) + 1) * 5) (by omega) (by omega), if_neg (by omega), if_neg (by omega), if_neg (by rcases hN with rfl | rfl | rfl | rfl | rfl <;> omega), if_neg (by omega)]
  have hm : (s.size : Int) % ((N : Int) + 1) = 0 := by rcases hN with rfl | rfl | rfl | rfl | rfl <;> omega
  rw [hm]
  simp only [impl_GridRead.j0]
  rw [if_neg (by decide)]
  have := impl_read_yes N R h1 h5 l hall s hl hs r5 hat s.size k 0 (by omega) (by rcases hN with rfl | rfl | rfl | rfl | rfl <;> omega)
  simpa using this
theorem impl_GridRead_total (s : ByteArray) (hs : s.size ≤ 1048576) (k : Nat) (hk : 300 < k) : impl_GridRead.f k s = some noGrid ∨ ∃ (N : Nat) (l : List S39), impl_GridRead.f k s = some ((N : Int), l, true) ∧ IsText N l s.data.toList := by
  have hsz : s.data.toList.length = s.size := Array.length_toList
  obtain ⟨k, rfl⟩ : ∃ m, k = m + 1 := ⟨k - 1, by omega⟩
  unfold impl_GridRead.f
  obtain ⟨w, hw⟩ : ∃ w, strings_IndexByte.f s 10 = some w := ⟨_, rfl⟩
  have hw0 : 1 ≤ w → 1 ≤ s.size := by
    intro h
    refine Decidable.byContradiction (fun hn => ?_)
    have e : s.data.toList = [] := List.eq_nil_of_length_eq_zero (by omega)
    unfold strings_IndexByte.f at hw
    rw [e] at hw
    have := Option.some.inj hw
    unfold Lib.indexByte at this
    omega
  rw [hw]
  simp only [Option.bind_some]
  have J : ∀ x, impl_GridRead.j0 (k + 1) s x true = some noGrid := by
    intro x
    simp only [impl_GridRead.j0]
    rfl
  by_cases a1 : w < 1
  · rw [if_pos a1]
    exact .inl (J _)
  rw [if_neg a1]
  by_cases a2 : w > 5
  · rw [if_pos a2]
    exact .inl (J _)
  rw [if_neg a2]
  obtain ⟨N, rfl⟩ := Int.eq_ofNat_of_zero_le (show 0 ≤ w by omega)
  have hN : N = 1 ∨ N = 2 ∨ N = 3 ∨ N = 4 ∨ N = 5 := by omega
  rw [w64 ((N : Int) + 1) (by omega) (by omega), w64 (((N : Int) + 1) * 5) (by omega) (by omega)]
  by_cases a3 : (s.size : Int) > ((N : Int) + 1) * 5
  · rw [if_pos a3]
    exact .inl (J _)
  rw [if_neg a3, if_neg (by omega)]
  by_cases a4 : (s.size : Int) % ((N : Int) + 1) = 0
  · rw [a4]
    simp only [impl_GridRead.j0]
    rw [if_neg (by decide)]
    have h30 : s.size ≤ 30 := by rcases hN with rfl | rfl | rfl | rfl | rfl <;> omega
    obtain ⟨res, e, hres⟩ := impl_read_l0 N (by omega) (by omega) s h30 s.size k 0 [] (by omega) (by omega) (by simp) (by simp)
    rw [show ((0 : Nat) : Int) = 0 from rfl] at e
    rw [e]
    rcases hres with rfl | ⟨t, rfl, g2, g3, g4⟩
    · exact .inl rfl
    · rw [List.nil_append] at g2 g3 g4 ⊢
      refine .inr ⟨N, t, rfl, ?_, ?_⟩
      · have h1 := hw0 (by omega)
        refine okB_mk (r := s.size / (N + 1)) (by omega) (by omega) ?_ ?_ ?_ g2 <;> (rcases hN with rfl | rfl | rfl | rfl | rfl <;> omega)
      · refine List.ext_getElem ?_ ?_
        · rw [hsz, textL_len N (by omega) (by omega)]
          rcases hN with rfl | rfl | rfl | rfl | rfl <;> omega
        · intro j hj hj2
          rw [textL_at N (by omega) (by omega) t _ j hj2]
          exact g4 j hj (Nat.zero_le j)
  · have : ((s.size : Int) % ((N : Int) + 1) != 0) = true := by simpa using a4
    rw [this]
    exact .inl (J _)
/-- The reference, of a text. -/
theorem spec_read_yes (N R : Nat) (h1 : 1 ≤ N) (h5 : N ≤ 5) (l : List S39) (hg : gridOkB (N : Int) l = true) (hall : l.all okCell = true) (s : ByteArray) (hst : s.data.toList = textL (N : Int) l l.length) (hl : l.length = N * R) (hs : s.size = l.length + R) (hR : R ≤ 5) (hat : ∀ j (hj : j < s.data.toList.length), s.data.toList[j] = chAt N l j) : ∀ (r k i : Nat), i + r = s.size → r + 130 < k →
    spec_GridRead.l0 k s (i : Int) (if i ≤ N then 0 else (N : Int)) (l.take (i - i / (N + 1))) = some ((N : Int), l, true)
  | 0, k, i, hi, hk => by
    obtain ⟨k, rfl⟩ : ∃ m, k = m + 1 := ⟨k - 1, by omega⟩
    simp only [spec_GridRead.l0]
    have hN : N = 1 ∨ N = 2 ∨ N = 3 ∨ N = 4 ∨ N = 5 := by omega
    have hR1 : 1 ≤ R := by
      obtain ⟨M, R', hM, _, _, r1, _, hl', _, _⟩ := okB_shape hg
      obtain rfl : N = M := by omega
      rw [hl] at hl'
      have := Nat.eq_of_mul_eq_mul_left (by omega) hl'
      omega
    have hl25 : l.length ≤ 25 := by rcases hN with rfl | rfl | rfl | rfl | rfl <;> omega
    rw [if_neg (by omega), List.take_of_length_le (by rcases hN with rfl | rfl | rfl | rfl | rfl <;> omega), if_neg (by rcases hN with rfl | rfl | rfl | rfl | rfl <;> omega), spec_GridText_some (N : Int) l (by omega) k (by omega)]
    simp only [Option.bind_some]
    rw [textOf_toList, if_pos hg, tl_data s, hst, if_pos rfl, if_neg (text_ne hg)]
  | r + 1, k, i, hi, hk => by
    obtain ⟨k, rfl⟩ : ∃ m, k = m + 1 := ⟨k - 1, by omega⟩
    have hsz : s.data.toList.length = s.size := Array.length_toList
    have hN : N = 1 ∨ N = 2 ∨ N = 3 ∨ N = 4 ∨ N = 5 := by omega
    have hlt : i < s.size := by omega
    have hs30 : s.size ≤ 30 := by rcases hN with rfl | rfl | rfl | rfl | rfl <;> omega
    have ih := spec_read_yes N R h1 h5 l hg hall s hst hl hs hR hat r k (i + 1) (by omega) (by omega)
    rw [show ((i + 1 : Nat) : Int) = (i : Int) + 1 from by omega] at ih
    have hbt := bt_get s i hlt
    rw [hat i (by omega)] at hbt
    simp only [spec_GridRead.l0]
    rw [if_pos (by omega), if_pos (by omega), w64 ((i : Int) + 1) (by omega) (by omega), hbt]
    unfold chAt
    by_cases c : i % (N + 1) = N
    · rw [if_pos c, if_pos (show (((10 : Nat).toUInt8.toNat : Nat) : Int) = 10 from rfl)]
      rw [show i + 1 - (i + 1) / (N + 1) = i - i / (N + 1) by rcases hN with rfl | rfl | rfl | rfl | rfl <;> omega, if_neg (by rcases hN with rfl | rfl | rfl | rfl | rfl <;> omega)] at ih
      by_cases ci : i ≤ N
      · obtain rfl : i = N := by rcases hN with rfl | rfl | rfl | rfl | rfl <;> omega
        rw [if_pos (Nat.le_refl _), if_pos rfl]
        exact ih
      · rw [if_neg ci, if_neg (by omega)]
        exact ih
    · have hq : i - i / (N + 1) < l.length := by rcases hN with rfl | rfl | rfl | rfl | rfl <;> omega
      have hsg := sg_lt hall hq
      have hok := sg_ok hall hq
      have hne := signOf_ne hok
      rw [← hsg.2] at hne
      rw [rd_at l _ hq] at hok
      rw [if_neg c, u8_nat hsg.1, if_neg hne]
      obtain ⟨j, hj⟩ : ∃ j, k = 20 + j := ⟨k - 20, by omega⟩
      have e : l1C (sgB l (i - i / (N + 1))) = (l[i - i / (N + 1)].f0, l[i - i / (N + 1)].f1) := by
        unfold sgB
        rw [rd_at l _ hq]
        exact l1C_sign hok
      have e2 := spec_l1Cell_some _ hsg.1 j
      rw [← hj, e] at e2
      rw [e2]
      simp only [Option.bind_some]
      rw [if_pos (by rw [List.length_take]; omega)]
      rw [show i + 1 - (i + 1) / (N + 1) = i - i / (N + 1) + 1 by rcases hN with rfl | rfl | rfl | rfl | rfl <;> omega, List.take_succ_eq_append_getElem hq] at ih
      have e3 : (if i + 1 ≤ N then (0 : Int) else (N : Int)) = (if i ≤ N then (0 : Int) else (N : Int)) := by
        by_cases ci : i + 1 ≤ N
        · rw [if_pos ci, if_pos (by omega)]
        · rw [if_neg ci, if_neg (by intro hh; apply c; have : i = N := by omega
                                    rw [this]; exact Nat.mod_eq_of_lt (by omega))]
      rw [e3] at ih
      exact ih
theorem spec_GridRead_yes {N : Nat} {l : List S39} {s : ByteArray} (h : IsText N l s.data.toList) (k : Nat) (hk : 300 < k) : spec_GridRead.f k s = some ((N : Int), l, true) := by
  obtain ⟨R, h1, h5, r1, r5, hl, hs, hall, hat⟩ := h.shape
  have hN : N = 1 ∨ N = 2 ∨ N = 3 ∨ N = 4 ∨ N = 5 := by omega
  unfold spec_GridRead.f
  rw [if_neg (by rcases hN with rfl | rfl | rfl | rfl | rfl <;> omega)]
  have := spec_read_yes N R h1 h5 l h.1 hall s h.2 hl hs r5 hat s.size k 0 (by omega) (by rcases hN with rfl | rfl | rfl | rfl | rfl <;> omega)
  simpa using this
theorem spec_read_l0 (s : ByteArray) (hs : s.size ≤ 30) : ∀ (r k i : Nat) (n : Int) (acc : List S39), i + r = s.size → r + 130 < k → acc.length ≤ i → spec_GridRead.l0 k s (i : Int) n acc = some noGrid ∨ ∃ (N : Nat) (l : List S39), spec_GridRead.l0 k s (i : Int) n acc = some ((N : Int), l, true) ∧ IsText N l s.data.toList
  | 0, k, i, n, acc, hi, hk, ha => by
    obtain ⟨k, rfl⟩ : ∃ m, k = m + 1 := ⟨k - 1, by omega⟩
    simp only [spec_GridRead.l0]
    rw [if_neg (by omega), spec_GridText_some n acc (by omega) k (by omega)]
    simp only [Option.bind_some]
    by_cases h : (textOf n acc).toList = s.toList
    · rw [if_pos h]
      by_cases hn : s.toList = []
      · rw [if_pos hn]
        exact .inl rfl
      · rw [if_neg hn]
        have hg : gridOkB n acc = true := by
          cases hgb : gridOkB n acc with
          | true => rfl
          | false => exact absurd (h.symm.trans (textOf_nil.2 hgb)) hn
        rw [textOf_toList, if_pos hg, tl_data s] at h
        obtain ⟨N, R, rfl, _⟩ := okB_shape hg
        exact .inr ⟨N, acc, rfl, hg, h.symm⟩
    · rw [if_neg h]
      exact .inl rfl
  | r + 1, k, i, n, acc, hi, hk, ha => by
    obtain ⟨k, rfl⟩ : ∃ m, k = m + 1 := ⟨k - 1, by omega⟩
    obtain ⟨b, hb, hbt, _⟩ := bt_lt s i (by omega)
    have ih := fun n acc h => spec_read_l0 s hs r k (i + 1) n acc (by omega) (by omega) h
    rw [show ((i + 1 : Nat) : Int) = (i : Int) + 1 from by omega] at ih
    simp only [spec_GridRead.l0]
    rw [if_pos (by omega), if_pos (by omega), w64 ((i : Int) + 1) (by omega) (by omega), hbt]
    obtain ⟨j, hj⟩ : ∃ j, k = 20 + j := ⟨k - 20, by omega⟩
    have e2 := spec_l1Cell_some b hb j
    rw [← hj] at e2
    rw [e2]
    simp only [Option.bind_some]
    split
    · split
      · exact ih _ _ (by omega)
      · exact ih _ _ (by omega)
    · rw [if_pos (by omega)]
      exact ih _ _ (by simp; omega)
theorem spec_GridRead_total (s : ByteArray) (k : Nat) (hk : 300 < k) : spec_GridRead.f k s = some noGrid ∨ ∃ (N : Nat) (l : List S39), spec_GridRead.f k s = some ((N : Int), l, true) ∧ IsText N l s.data.toList := by
  unfold spec_GridRead.f
  by_cases h : (s.size : Int) > 30
  · rw [if_pos h]
    exact .inl rfl
  · rw [if_neg h]
    exact spec_read_l0 s (by omega) s.size k 0 0 [] (by omega) (by omega) (by simp)
/-- What is read: of both the same. -/
theorem read_cases (s : ByteArray) (hs : s.size ≤ 1048576) : (∀ k, 300 < k → impl_GridRead.f k s = some noGrid ∧ spec_GridRead.f k s = some noGrid) ∨ ∃ (N : Nat) (l : List S39), IsText N l s.data.toList ∧ ∀ k, 300 < k → impl_GridRead.f k s = some ((N : Int), l, true) ∧ spec_GridRead.f k s = some ((N : Int), l, true) := by
  by_cases h : ∃ (N : Nat) (l : List S39), IsText N l s.data.toList
  · obtain ⟨N, l, h⟩ := h
    exact .inr ⟨N, l, h, fun k hk => ⟨impl_GridRead_yes h k hk, spec_GridRead_yes h k hk⟩⟩
  · refine .inl (fun k hk => ⟨?_, ?_⟩)
    · rcases impl_GridRead_total s hs k hk with e | ⟨N, l, _, e⟩
      · exact e
      · exact absurd ⟨N, l, e⟩ h
    · rcases spec_GridRead_total s k hk with e | ⟨N, l, _, e⟩
      · exact e
      · exact absurd ⟨N, l, e⟩ h
theorem textOf_is {n : Int} {l : List S39} (h : gridOkB n l = true) : ∃ N : Nat, n = (N : Int) ∧ IsText N l (textOf n l).data.toList := by
  obtain ⟨N, R, rfl, _⟩ := okB_shape h
  refine ⟨N, rfl, h, ?_⟩
  rw [← tl_data, textOf_toList, if_pos h]
end Go.Proofs.Ytpjdhpkfenohgaa.P
