/- PROVED: the text of a grid, place by place; both GridText functions return it; the cells of signs. Condition: the grid has at most 2^40 cells. -/
import Derived.Test.YtpjdhpkfenohgaaPx30
import Derived.Test.YtpjdhpkfenohgaaPx34
import Derived.Test.YtpjdhpkfenohgaaPx31
import Derived.Test.YtpjdhpkfenohgaaH3GridText
namespace Go.Proofs.Ytpjdhpkfenohgaa.P
open Go.RowKit Go.Proofs.YtpjdhpkfenohgaaW.PrintWords Go.Proofs.YtpjdhpkfenohgaaW.PrintLast Go.Proofs.YtpjdhpkfenohgaaW.PrintMore
set_option linter.unusedVariables false
set_option linter.unusedSimpArgs false
/-- The byte at a place of a text. -/
def chAt (N : Nat) (l : List S39) (i : Nat) : UInt8 := if i % (N + 1) = N then (10 : Nat).toUInt8 else (sgB l (i - i / (N + 1))).toUInt8
theorem cond_row {N q : Nat} (h1 : 1 ≤ N) (h5 : N ≤ 5) : (q : Int) % (N : Int) = wrap64 ((N : Int) - 1) ↔ q % N = N - 1 := by
  rw [w64 ((N : Int) - 1) (by omega) (by omega)]
  have : N = 1 ∨ N = 2 ∨ N = 3 ∨ N = 4 ∨ N = 5 := by omega
  rcases this with rfl | rfl | rfl | rfl | rfl <;> omega
theorem range_map_succ (f : Nat → UInt8) (m : Nat) : (List.range (m + 1)).map f = (List.range m).map f ++ [f m] := by
  rw [List.range_succ, List.map_append]
  rfl
theorem textL_range (N : Nat) (h1 : 1 ≤ N) (h5 : N ≤ 5) (l : List S39) : ∀ q, textL (N : Int) l q = (List.range (q + q / N)).map (chAt N l)
  | 0 => by simp [textL]
  | q + 1 => by
    have ih := textL_range N h1 h5 l q
    have hN : N = 1 ∨ N = 2 ∨ N = 3 ∨ N = 4 ∨ N = 5 := by omega
    have e1 : chAt N l (q + q / N) = (sgB l q).toUInt8 := by
      unfold chAt
      have a1 : ¬ (q + q / N) % (N + 1) = N := by rcases hN with rfl | rfl | rfl | rfl | rfl <;> omega
      have a2 : q + q / N - (q + q / N) / (N + 1) = q := by rcases hN with rfl | rfl | rfl | rfl | rfl <;> omega
      rw [if_neg a1, a2]
    rw [textL]
    by_cases c : q % N = N - 1
    · have e2 : chAt N l (q + q / N + 1) = (10 : Nat).toUInt8 := by
        unfold chAt
        have a1 : (q + q / N + 1) % (N + 1) = N := by rcases hN with rfl | rfl | rfl | rfl | rfl <;> omega
        rw [if_pos a1]
      have a3 : q + 1 + (q + 1) / N = q + q / N + 1 + 1 := by rcases hN with rfl | rfl | rfl | rfl | rfl <;> omega
      rw [if_pos ((cond_row h1 h5).2 c), a3, range_map_succ, range_map_succ, e1, e2, ih]
    · have a3 : q + 1 + (q + 1) / N = q + q / N + 1 := by rcases hN with rfl | rfl | rfl | rfl | rfl <;> omega
      rw [if_neg (fun h => c ((cond_row h1 h5).1 h)), a3, range_map_succ, e1, ih]
theorem textL_len (N : Nat) (h1 : 1 ≤ N) (h5 : N ≤ 5) (l : List S39) (q : Nat) : (textL (N : Int) l q).length = q + q / N := by
  rw [textL_range N h1 h5]
  simp
theorem textL_at (N : Nat) (h1 : 1 ≤ N) (h5 : N ≤ 5) (l : List S39) (q i : Nat) (hi : i < (textL (N : Int) l q).length) : (textL (N : Int) l q)[i] = chAt N l i := by
  simp only [textL_range N h1 h5, List.getElem_map, List.getElem_range]
/-- A grid and its text. -/
def IsText (N : Nat) (l : List S39) (s : List UInt8) : Prop := gridOkB (N : Int) l = true ∧ s = textL (N : Int) l l.length
theorem okB_shape {n : Int} {l : List S39} (h : gridOkB n l = true) : ∃ N r : Nat, n = (N : Int) ∧ 1 ≤ N ∧ N ≤ 5 ∧ 1 ≤ r ∧ r ≤ 5 ∧ l.length = N * r ∧ l.length / N = r ∧ l.all okCell = true := by
  unfold gridOkB shapeB at h
  simp only [Bool.and_eq_true, decide_eq_true_eq] at h
  obtain ⟨⟨a1, a2, a3, a4, a5⟩, hall⟩ := h
  obtain ⟨N, rfl⟩ := Int.eq_ofNat_of_zero_le (show 0 ≤ n by omega)
  have hN : N = 1 ∨ N = 2 ∨ N = 3 ∨ N = 4 ∨ N = 5 := by omega
  refine ⟨N, l.length / N, rfl, by omega, by omega, ?_, ?_, ?_, rfl, hall⟩ <;> (rcases hN with rfl | rfl | rfl | rfl | rfl <;> omega)
theorem okB_mk {N r : Nat} {l : List S39} (h1 : 1 ≤ N) (h5 : N ≤ 5) (r1 : 1 ≤ r) (r5 : r ≤ 5) (hl : l.length = N * r) (hall : l.all okCell = true) : gridOkB (N : Int) l = true := by
  unfold gridOkB shapeB
  simp only [Bool.and_eq_true, decide_eq_true_eq]
  have hN : N = 1 ∨ N = 2 ∨ N = 3 ∨ N = 4 ∨ N = 5 := by omega
  refine ⟨⟨by omega, by omega, ?_, ?_, ?_⟩, hall⟩ <;> (rcases hN with rfl | rfl | rfl | rfl | rfl <;> omega)
theorem sg_ok {l : List S39} (hall : l.all okCell = true) {q : Nat} (hq : q < l.length) : cellOkB (rd_T39 l (q : Int)).f0 (rd_T39 l (q : Int)).f1 = true := by
  rw [rd_at l q hq]
  exact List.all_eq_true.1 hall _ (List.getElem_mem hq)
theorem sg_lt {l : List S39} (hall : l.all okCell = true) {q : Nat} (hq : q < l.length) : sgB l q < 256 ∧ ((sgB l q : Nat) : Int) = signOf (rd_T39 l (q : Int)).f0 (rd_T39 l (q : Int)).f1 := by
  have := signOf_in (sg_ok hall hq)
  unfold sgB
  omega
theorem signOf_ne {k x : Int} (h : cellOkB k x = true) : signOf k x ≠ 10 := by
  rcases cellOkB_cases h with ⟨rfl, h1, h9⟩ | ⟨rfl, hk⟩
  · unfold signOf
    rw [if_pos rfl]
    omega
  · rcases hk with rfl | rfl | rfl | rfl | rfl | rfl | rfl <;> decide
theorem u8_nat {a : Nat} (h : a < 256) : (a.toUInt8).toNat = a := by
  rw [Nat.toUInt8_eq, UInt8.toNat_ofNat']
  exact Nat.mod_eq_of_lt h
/-- A program's function: the text. -/
theorem impl_GridText_some (n : Int) (l : List S39) (hl : l.length ≤ 1099511627776) (k : Nat) (hk : l.length + 20 ≤ k) : impl_GridText.f k n l = some (textOf n l) := if_pos ⟨hk, hl⟩
theorem l1Sign_some {k x : Int} (h : cellOkB k x = true) : spec_l1Sign.f k x = some (signOf k x) := by
  rcases cellOkB_cases h with ⟨rfl, h1, h9⟩ | ⟨rfl, hk⟩
  · unfold spec_l1Sign.f signOf
    rw [if_pos rfl, if_pos rfl, w64 _ (by omega) (by omega)]
    congr 1
    omega
  · rcases hk with rfl | rfl | rfl | rfl | rfl | rfl | rfl <;> decide
theorem ba_append (x y : List UInt8) : (⟨x.toArray⟩ : ByteArray) ++ (⟨y.toArray⟩ : ByteArray) = ⟨(x ++ y).toArray⟩ := by
  apply ByteArray.ext
  simp
theorem strOf_one (v : Nat) : strOfNums [(v : Int)] = ⟨[v.toUInt8].toArray⟩ := rfl
theorem ba_size (x : List UInt8) : (⟨x.toArray⟩ : ByteArray).size = x.length := by simp [ByteArray.size]
theorem spec_GridText_l0 (N : Nat) (h1 : 1 ≤ N) (h5 : N ≤ 5) (l : List S39) (hl : l.length ≤ 1099511627776) (hall : l.all okCell = true) : ∀ (r k q : Nat), q + r = l.length → r < k → spec_GridText.l0 k ⟨(textL (N : Int) l q).toArray⟩ (q : Int) (N : Int) l = some ⟨(textL (N : Int) l l.length).toArray⟩
  | 0, k, q, hq, hk => by
    obtain ⟨k, rfl⟩ : ∃ m, k = m + 1 := ⟨k - 1, by omega⟩
    simp only [spec_GridText.l0]
    rw [if_neg (by omega)]
    obtain rfl : q = l.length := by omega
    rfl
  | r + 1, k, q, hq, hk => by
    obtain ⟨k, rfl⟩ : ∃ m, k = m + 1 := ⟨k - 1, by omega⟩
    have hlt : q < l.length := by omega
    have ih := spec_GridText_l0 N h1 h5 l hl hall r k (q + 1) (by omega) (by omega)
    rw [show ((q + 1 : Nat) : Int) = (q : Int) + 1 from by omega] at ih
    have hle := textL_le (N : Int) l q
    have hsg := (sg_lt hall hlt).2
    simp only [spec_GridText.l0]
    rw [if_pos (by omega), if_pos (by omega), l1Sign_some (sg_ok hall hlt), ← hsg]
    simp only [Option.bind_some]
    rw [strOf_one, ba_append, ba_size, ba_size, if_pos (by simp; omega), if_neg (by omega), w64 ((q : Int) + 1) (by omega) (by omega)]
    rw [textL] at ih
    have hN : N = 1 ∨ N = 2 ∨ N = 3 ∨ N = 4 ∨ N = 5 := by omega
    have hc : Int.tmod ((q : Int) + 1) (N : Int) = 0 ↔ q % N = N - 1 := by
      rw [Int.tmod_eq_emod_of_nonneg (by omega)]
      rcases hN with rfl | rfl | rfl | rfl | rfl <;> omega
    by_cases c : q % N = N - 1
    · rw [if_pos ((cond_row h1 h5).2 c)] at ih
      rw [if_pos (hc.2 c), ba_size, if_pos (by simp; omega)]
      rw [show (⟨#[10]⟩ : ByteArray) = ⟨[(10 : Nat).toUInt8].toArray⟩ from rfl, ba_append]
      exact ih
    · rw [if_neg (fun h => c ((cond_row h1 h5).1 h))] at ih
      rw [if_neg (fun h => c (hc.1 h))]
      exact ih
theorem spec_GridText_some (n : Int) (l : List S39) (hl : l.length ≤ 1099511627776) (k : Nat) (hk : l.length + 20 ≤ k) : spec_GridText.f k n l = some (textOf n l) := by
  unfold spec_GridText.f textOf
  rw [spec_GridOk_some n l hl k (by omega)]
  simp only [Option.bind_some]
  by_cases h : gridOkB n l = true
  · rw [if_pos h, if_pos h]
    obtain ⟨N, r, rfl, h1, h5, _, _, _, _, hall⟩ := okB_shape h
    exact spec_GridText_l0 N h1 h5 l hl hall l.length k 0 (by omega) (by omega)
  · rw [if_neg h, if_neg h]
/-- The cell of a sign. -/
def rdC (b : Nat) : Int × Int × Bool := (impl_cellRead.l0 120 (b : Int) 0).getD (0, 0, false)
theorem cellRead_all : ∀ b : Nat, b < 256 → (impl_cellRead.l0 120 (b : Int) 0).isSome = true ∧ (if (rdC b).2.2 = true then cellOkB (rdC b).1 (rdC b).2.1 = true ∧ signOf (rdC b).1 (rdC b).2.1 = (b : Int) else rdC b = (0, 0, false)) := by
  decide +kernel
theorem rdC_sign {k x : Int} (h : cellOkB k x = true) : rdC (signOf k x).toNat = (k, x, true) := by
  rcases cellOkB_cases h with ⟨rfl, h1, h9⟩ | ⟨rfl, hk⟩
  · have : x = 1 ∨ x = 2 ∨ x = 3 ∨ x = 4 ∨ x = 5 ∨ x = 6 ∨ x = 7 ∨ x = 8 ∨ x = 9 := by omega
    rcases this with rfl | rfl | rfl | rfl | rfl | rfl | rfl | rfl | rfl <;> decide +kernel
  · rcases hk with rfl | rfl | rfl | rfl | rfl | rfl | rfl <;> decide +kernel
theorem cellRead_more : ∀ k : Nat, (∀ (b x : Int) (r : Int × Int × Bool), impl_cellRead.l0 k b x = some r → impl_cellRead.l0 (k + 1) b x = some r) ∧ (∀ (b x y : Int) (r : Int × Int × Bool), impl_cellRead.l1 k b x y = some r → impl_cellRead.l1 (k + 1) b x y = some r)
  | 0 => ⟨fun b x r h => (by cases h), fun b x y r h => (by cases h)⟩
  | k + 1 => by
    obtain ⟨i0, i1⟩ := cellRead_more k
    constructor
    · intro b x r h
      rw [impl_cellRead.l0] at h ⊢
      split
      · rename_i c
        rw [if_pos c] at h
        exact i1 _ _ _ _ h
      · rename_i c
        rw [if_neg c] at h
        exact h
    · intro b x y r h
      rw [impl_cellRead.l1] at h ⊢
      split
      · rename_i c
        rw [if_pos c] at h
        obtain ⟨u, hu, h⟩ := Option.bind_eq_some_iff.1 h
        rw [hu]
        simp only [Option.bind_some]
        split
        · rename_i d
          rw [if_pos d] at h
          obtain ⟨v, hv, h⟩ := Option.bind_eq_some_iff.1 h
          rw [hv]
          simp only [Option.bind_some]
          split
          · rename_i e
            rw [if_pos e] at h
            exact h
          · rename_i e
            rw [if_neg e] at h
            exact i1 _ _ _ _ h
        · rename_i d
          rw [if_neg d] at h
          exact i1 _ _ _ _ h
      · rename_i c
        rw [if_neg c] at h
        exact i0 _ _ _ h
theorem cellRead_up (b : Int) (r : Int × Int × Bool) (h : impl_cellRead.l0 120 b 0 = some r) : ∀ j, impl_cellRead.l0 (120 + j) b 0 = some r
  | 0 => h
  | j + 1 => (cellRead_more (120 + j)).1 _ _ _ (cellRead_up b r h j)
theorem impl_cellRead_some (b : Nat) (hb : b < 256) (k : Nat) (hk : 120 ≤ k) : impl_cellRead.f k (b : Int) = some (rdC b) := by
  obtain ⟨j, rfl⟩ : ∃ j, k = 120 + j := ⟨k - 120, by omega⟩
  obtain ⟨r, hr⟩ := Option.isSome_iff_exists.1 (cellRead_all b hb).1
  have : rdC b = r := by
    unfold rdC
    rw [hr]
    rfl
  unfold impl_cellRead.f
  rw [this]
  exact cellRead_up _ _ hr j
/-- The reference's cell of a sign. -/
def l1C (b : Nat) : Int × Int := (spec_l1Cell.f 20 (b : Int)).getD (0, 0)
theorem l1Cell_all : ∀ b : Nat, b < 256 → (spec_l1Cell.f 20 (b : Int)).isSome = true ∧ (if (rdC b).2.2 = true then l1C b = ((rdC b).1, (rdC b).2.1) else True) := by
  decide +kernel
theorem l1Cell_more : ∀ (k : Nat) (b : Int) (x : ByteArray) (y : Int) (r : Int × Int), spec_l1Cell.l0 k b x y = some r → spec_l1Cell.l0 (k + 1) b x y = some r
  | 0, b, x, y, r, h => by cases h
  | k + 1, b, x, y, r, h => by
    rw [spec_l1Cell.l0] at h ⊢
    split
    · rename_i c
      rw [if_pos c] at h
      split
      · rename_i d
        rw [if_pos d] at h
        split
        · rename_i e
          rw [if_pos e] at h
          exact h
        · rename_i e
          rw [if_neg e] at h
          exact l1Cell_more k _ _ _ _ h
      · rename_i d
        rw [if_neg d] at h
        cases h
    · rename_i c
      rw [if_neg c] at h
      exact h
theorem l1Cell_step (k : Nat) (b : Int) (r : Int × Int) (h : spec_l1Cell.f k b = some r) : spec_l1Cell.f (k + 1) b = some r := by
  have J : ∀ c, spec_l1Cell.j0 k b c = some r → spec_l1Cell.j0 (k + 1) b c = some r := by
    intro c hc
    cases k with
    | zero => cases hc
    | succ k =>
      rw [spec_l1Cell.j0] at hc ⊢
      split
      · rename_i d
        rw [if_pos d] at hc
        exact hc
      · rename_i d
        rw [if_neg d] at hc
        obtain ⟨u, hu, hc⟩ := Option.bind_eq_some_iff.1 hc
        rw [hu]
        exact l1Cell_more k _ _ _ _ hc
  unfold spec_l1Cell.f at h ⊢
  split
  · rename_i c
    rw [if_pos c] at h
    exact J _ h
  · rename_i c
    rw [if_neg c] at h
    exact J _ h
theorem spec_l1Cell_some (b : Nat) (hb : b < 256) : ∀ j, spec_l1Cell.f (20 + j) (b : Int) = some (l1C b)
  | 0 => by
    obtain ⟨r, hr⟩ := Option.isSome_iff_exists.1 (l1Cell_all b hb).1
    unfold l1C
    rw [hr]
    rfl
  | j + 1 => l1Cell_step (20 + j) _ _ (spec_l1Cell_some b hb j)
theorem l1C_sign {k x : Int} (h : cellOkB k x = true) : l1C (signOf k x).toNat = (k, x) := by
  have hs := signOf_in h
  have := (l1Cell_all (signOf k x).toNat (by omega)).2
  rw [rdC_sign h, if_pos rfl] at this
  exact this
/-- The byte at a place. -/
theorem bt_get (s : ByteArray) (i : Nat) (h : i < s.size) : bt s (i : Int) = ((s.data.toList[i]'(show i < s.data.toList.length by rw [Array.length_toList]; exact h)).toNat : Int) := by
  unfold bt
  rw [dif_pos (show (i : Int).toNat < s.size from h)]
  rfl
theorem tl_loop (s : ByteArray) : ∀ (d i : Nat) (r : List UInt8), s.size - i = d → ByteArray.toList.loop s i r = r.reverse ++ s.data.toList.drop i := by
  intro d
  induction d with
  | zero =>
    intro i r h
    rw [ByteArray.toList.loop, if_neg (by omega), List.drop_eq_nil_of_le (by rw [Array.length_toList]; show s.size ≤ i; omega)]
    simp
  | succ d ih =>
    intro i r h
    have hi : i < s.data.toList.length := by rw [Array.length_toList]; show i < s.size; omega
    rw [ByteArray.toList.loop, if_pos (by omega), ih (i + 1) _ (by omega), List.drop_eq_getElem_cons hi]
    have : s.get! i = s.data.toList[i] := by
      show s.data[i]! = _
      rw [getElem!_pos s.data i (by simpa using hi)]
      simp
    simp [this]
theorem tl_data (s : ByteArray) : s.toList = s.data.toList := by
  unfold ByteArray.toList
  rw [tl_loop s s.size 0 [] (by omega)]
  simp
theorem tl_mk (l : List UInt8) : (⟨l.toArray⟩ : ByteArray).toList = l := by rw [tl_data]
theorem textOf_toList (n : Int) (l : List S39) : (textOf n l).toList = if gridOkB n l = true then textL n l l.length else [] := by
  unfold textOf
  split
  · exact tl_mk _
  · exact tl_mk []
theorem text_ne {N : Nat} {l : List S39} (h : gridOkB (N : Int) l = true) : textL (N : Int) l l.length ≠ [] := by
  obtain ⟨M, r, hM, h1, h5, r1, r5, hl, hd, hall⟩ := okB_shape h
  obtain rfl : N = M := by omega
  intro e
  have := textL_len N h1 h5 l l.length
  rw [e] at this
  simp only [List.length_nil] at this
  omega
theorem textOf_nil {n : Int} {l : List S39} : (textOf n l).toList = [] ↔ gridOkB n l = false := by
  rw [textOf_toList]
  by_cases h : gridOkB n l = true
  · rw [if_pos h]
    obtain ⟨N, r, rfl, _⟩ := okB_shape h
    constructor
    · exact fun e => absurd e (text_ne h)
    · intro e
      rw [h] at e
      cases e
  · rw [if_neg h]
    simp [h]
end Go.Proofs.Ytpjdhpkfenohgaa.P
