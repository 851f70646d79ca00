/- PROVED: the pure statement of FnGridStack: rows behind rows are a grid. No condition. -/
import Derived.Test.YtpjdhpkfenohgaaPx41
import Derived.Test.YtpjdhpkfenohgaaQDrawText
import Derived.Test.YtpjdhpkfenohgaaQRead
import Derived.Test.YtpjdhpkfenohgaaQLl
namespace Go.Proofs.Ytpjdhpkfenohgaa.Pure
open Go.RowKit Go.Proofs.Ytpjdhpkfenohgaa.P Go.Proofs.YtpjdhpkfenohgaaW.PrintWords Go.Proofs.YtpjdhpkfenohgaaW.PrintLast
set_option linter.unusedVariables false
set_option linter.unusedSimpArgs false
theorem ch_nl {N R : Nat} (h1 : 1 ≤ N) (h5 : N ≤ 5) {l : List S39} (hall : l.all okCell = true) (hl : l.length = N * R) (hR : R ≤ 5) {i : Nat} (hi : i < l.length + R) : chAt N l i = (10 : Nat).toUInt8 ↔ i % (N + 1) = N := by
  have hN : N = 1 ∨ N = 2 ∨ N = 3 ∨ N = 4 ∨ N = 5 := by omega
  unfold chAt
  by_cases c : i % (N + 1) = N
  · rw [if_pos c]
    exact ⟨fun _ => c, fun _ => rfl⟩
  · rw [if_neg c]
    have hq : i - i / (N + 1) < l.length := by rcases hN with rfl | rfl | rfl | rfl | rfl <;> omega
    have hsg := sg_lt hall hq
    have hne := signOf_ne (sg_ok hall hq)
    rw [← hsg.2] at hne
    exact ⟨fun e => absurd e (ten_ne hsg.1 hne), fun e => absurd e c⟩
theorem at_of {N : Nat} {l : List S39} {s : List UInt8} (h : ∀ j (hj : j < s.length), s[j] = chAt N l j) {j : Nat} (hj : j < s.length) : s[j]? = some (chAt N l j) := by
  rw [List.getElem?_eq_getElem hj, h j hj]
/-- Two texts that make one have rows of one width. -/
theorem stack_wide {N N' M : Nat} {l l' m : List S39} {s t u : ByteArray} (hs : IsText N l s.data.toList) (ht : IsText N' l' t.data.toList) (hu : IsText M m u.data.toList) (e : u.data.toList = s.data.toList ++ t.data.toList) : N = N' ∧ l.length + l'.length ≤ 5 * N := by
  obtain ⟨R, a1, a5, r1, r5, hl, hsz, hall, hat⟩ := hs.shape
  obtain ⟨R', b1, b5, q1, q5, hl', hsz', hall', hat'⟩ := ht.shape
  obtain ⟨Q, c1, c5, p1, p5, hm, hsu, hallm, hatm⟩ := hu.shape
  have ls : s.data.toList.length = s.size := Array.length_toList
  have lt : t.data.toList.length = t.size := Array.length_toList
  have lu : u.data.toList.length = u.size := Array.length_toList
  have hlen : u.size = s.size + t.size := by rw [← lu, e, List.length_append, ls, lt]
  have hN : N = 1 ∨ N = 2 ∨ N = 3 ∨ N = 4 ∨ N = 5 := by omega
  have hN' : N' = 1 ∨ N' = 2 ∨ N' = 3 ∨ N' = 4 ∨ N' = 5 := by omega
  have hM : M = 1 ∨ M = 2 ∨ M = 3 ∨ M = 4 ∨ M = 5 := by omega
  have hs1 : N + 1 ≤ s.size := by rw [hsz, hl]; rcases hN with rfl | rfl | rfl | rfl | rfl <;> omega
  have ht1 : N' + 1 ≤ t.size := by rw [hsz', hl']; rcases hN' with rfl | rfl | rfl | rfl | rfl <;> omega
  have first : ∀ j, j < s.size → chAt M m j = chAt N l j := by
    intro j hj
    have x := at_of hatm (j := j) (by omega)
    rw [e, List.getElem?_append_left (by omega), at_of hat (by omega)] at x
    exact (Option.some.inj x).symm
  have second : ∀ j, j < t.size → chAt M m (s.size + j) = chAt N' l' j := by
    intro j hj
    have x := at_of hatm (j := s.size + j) (by omega)
    rw [e, List.getElem?_append_right (by omega), show s.size + j - s.data.toList.length = j by omega, at_of hat' (by omega)] at x
    exact (Option.some.inj x).symm
  have hMN : M = N := by
    rcases Nat.lt_trichotomy M N with h | h | h
    · have x := (ch_nl c1 c5 hallm hm p5 (i := M) (by omega)).2 (Nat.mod_eq_of_lt (by omega))
      rw [first M (by omega)] at x
      have y := (ch_nl a1 a5 hall hl r5 (i := M) (by omega)).1 x
      rw [Nat.mod_eq_of_lt (by omega)] at y
      exact y
    · exact h
    · have x := (ch_nl a1 a5 hall hl r5 (i := N) (by omega)).2 (Nat.mod_eq_of_lt (by omega))
      rw [← first N (by omega)] at x
      have y := (ch_nl c1 c5 hallm hm p5 (i := N) (by omega)).1 x
      rw [Nat.mod_eq_of_lt (by omega)] at y
      exact y.symm
  subst hMN
  have hmod : ∀ j, j < M + 1 → (s.size + j) % (M + 1) = j := by
    intro j hj
    rw [hsz, hl]
    rcases hM with rfl | rfl | rfl | rfl | rfl <;> omega
  have hNN : M = N' := by
    rcases Nat.lt_trichotomy N' M with h | h | h
    · have x := (ch_nl b1 b5 hall' hl' q5 (i := N') (by omega)).2 (Nat.mod_eq_of_lt (by omega))
      rw [← second N' (by omega)] at x
      have y := (ch_nl c1 c5 hallm hm p5 (i := s.size + N') (by omega)).1 x
      rw [hmod N' (by omega)] at y
      exact y.symm
    · exact h.symm
    · have x := (ch_nl c1 c5 hallm hm p5 (i := s.size + M) (by omega)).2 (hmod M (by omega))
      rw [second M (by omega)] at x
      have y := (ch_nl b1 b5 hall' hl' q5 (i := M) (by omega)).1 x
      rw [Nat.mod_eq_of_lt (by omega)] at y
      exact y
  refine ⟨hNN, ?_⟩
  subst hNN
  rcases hM with rfl | rfl | rfl | rfl | rfl <;> omega
theorem rd_left (l l' : List S39) (q : Nat) (hq : q < l.length) : rd_T39 (l ++ l') (q : Int) = rd_T39 l (q : Int) := by
  rw [rd_at _ q (by rw [List.length_append]; omega), rd_at l q hq, List.getElem_append_left hq]
theorem rd_right (l l' : List S39) (q : Nat) (hq : q < l'.length) : rd_T39 (l ++ l') ((l.length + q : Nat) : Int) = rd_T39 l' (q : Int) := by
  rw [rd_at _ _ (by rw [List.length_append]; omega), rd_at l' q hq, List.getElem_append_right (by omega)]
  simp only [Nat.add_sub_cancel_left]
theorem textL_left (n : Int) (l l' : List S39) : ∀ q, q ≤ l.length → textL n (l ++ l') q = textL n l q
  | 0, _ => rfl
  | q + 1, h => by
    have ih := textL_left n l l' q (by omega)
    have e : sgB (l ++ l') q = sgB l q := by
      unfold sgB
      rw [rd_left l l' q (by omega)]
    rw [textL, textL, ih, e]
theorem textL_stack (N R : Nat) (h1 : 1 ≤ N) (h5 : N ≤ 5) (l l' : List S39) (hl : l.length = N * R) : ∀ q, q ≤ l'.length → textL (N : Int) (l ++ l') (l.length + q) = textL (N : Int) l l.length ++ textL (N : Int) l' q
  | 0, _ => by
    rw [Nat.add_zero, textL_left (N : Int) l l' l.length (Nat.le_refl _)]
    exact (List.append_nil _).symm
  | q + 1, h => by
    have ih := textL_stack N R h1 h5 l l' hl q (by omega)
    have e : sgB (l ++ l') (l.length + q) = sgB l' q := by
      unfold sgB
      rw [rd_right l l' q (by omega)]
    have hN : N = 1 ∨ N = 2 ∨ N = 3 ∨ N = 4 ∨ N = 5 := by omega
    have c : (l.length + q) % N = N - 1 ↔ q % N = N - 1 := by
      rw [hl]
      rcases hN with rfl | rfl | rfl | rfl | rfl <;> omega
    rw [show l.length + (q + 1) = (l.length + q) + 1 from rfl, textL, textL, ih, e]
    by_cases d : q % N = N - 1
    · rw [if_pos ((cond_row h1 h5).2 (c.2 d)), if_pos ((cond_row h1 h5).2 d)]
      simp only [List.append_assoc]
    · rw [if_neg (fun x => d (c.1 ((cond_row h1 h5).1 x))), if_neg (fun x => d ((cond_row h1 h5).1 x))]
      simp only [List.append_assoc]
theorem stack_is {N : Nat} {l l' : List S39} {s t : ByteArray} (hs : IsText N l s.data.toList) (ht : IsText N l' t.data.toList) (hf : l.length + l'.length ≤ 5 * N) : IsText N (l ++ l') (s ++ t).data.toList := by
  obtain ⟨R, a1, a5, r1, r5, hl, hsz, hall, hat⟩ := hs.shape
  obtain ⟨R', b1, b5, q1, q5, hl', hsz', hall', hat'⟩ := ht.shape
  have hN : N = 1 ∨ N = 2 ∨ N = 3 ∨ N = 4 ∨ N = 5 := by omega
  refine ⟨okB_mk (r := R + R') a1 a5 (by omega) (by rcases hN with rfl | rfl | rfl | rfl | rfl <;> omega) (by rw [List.length_append]; rcases hN with rfl | rfl | rfl | rfl | rfl <;> omega) (by rw [List.all_append, hall, hall']; rfl), ?_⟩
  have e : (s ++ t).data.toList = s.data.toList ++ t.data.toList := by simp
  rw [e, hs.2, ht.2, List.length_append, textL_stack N R a1 a5 l l' hl l'.length (Nat.le_refl _)]
theorem stack_j1 (n n' : Int) (l l' : List S39) (hl : l.length ≤ 26) (hl' : l'.length ≤ 26) (k : Nat) (hk : 300 < k) : laws_FnGridStack.j1 k (textOf n l) (textOf n' l') true n l n' l' = some true := by
  obtain ⟨k, rfl⟩ : ∃ m, k = m + 1 := ⟨k - 1, by omega⟩
  have I := spec_GridText_some n l (by omega) k (by omega)
  have J := spec_GridText_some n' l' (by omega) k (by omega)
  rw [laws_FnGridStack.j1, if_pos rfl, I, Option.bind_some, if_pos rfl, J, Option.bind_some, beq_self_eq_true]
theorem stack_j2 {N N' : Nat} {l l' : List S39} {s t : ByteArray} (hs : IsText N l s.data.toList) (ht : IsText N' l' t.data.toList) (b : Bool) (hb : b = true ↔ N = N' ∧ l.length + l'.length ≤ 5 * N) (k : Nat) (hk : 500 < k) : laws_FnGridStack.j2 k s t b (N : Int) (l ++ l') = some true := by
  obtain ⟨k, rfl⟩ : ∃ m, k = m + 1 := ⟨k - 1, by omega⟩
  obtain ⟨R, a1, a5, r1, r5, hl, hsz, hall, hat⟩ := hs.shape
  obtain ⟨R', b1, b5, q1, q5, hl', hsz', hall', hat'⟩ := ht.shape
  have hN : N = 1 ∨ N = 2 ∨ N = 3 ∨ N = 4 ∨ N = 5 := by omega
  have hN' : N' = 1 ∨ N' = 2 ∨ N' = 3 ∨ N' = 4 ∨ N' = 5 := by omega
  have z1 : s.size ≤ 30 := by rcases hN with rfl | rfl | rfl | rfl | rfl <;> omega
  have z2 : t.size ≤ 30 := by rcases hN' with rfl | rfl | rfl | rfl | rfl <;> omega
  have z3 : (l ++ l').length ≤ 50 := by
    rw [List.length_append]
    have y1 : l.length ≤ 25 := by rcases hN with rfl | rfl | rfl | rfl | rfl <;> omega
    have y2 : l'.length ≤ 25 := by rcases hN' with rfl | rfl | rfl | rfl | rfl <;> omega
    omega
  have z4 : s.size + t.size ≤ 9223372036854775807 := Nat.le_trans (Nat.add_le_add z1 z2) (by decide)
  rw [laws_FnGridStack.j2, if_pos z4]
  by_cases h : N = N' ∧ l.length + l'.length ≤ 5 * N
  · have hb' := hb.2 h
    obtain ⟨rfl, hf⟩ := h
    have hI := stack_is hs ht hf
    rw [impl_GridRead_yes hI k (by omega), Option.bind_some, if_pos hb', if_pos rfl, llGrid_same (N : Int) (l ++ l') (by omega) k (by omega), Option.bind_some, if_pos rfl, impl_GridOk_some (N : Int) (l ++ l') (by omega) k (by omega), Option.bind_some, hI.1]
  · have hb' : ¬ b = true := fun x => h (hb.1 x)
    have z5 : (s ++ t).size ≤ 1048576 := by
      rw [ByteArray.size_append]
      omega
    rcases impl_GridRead_total (s ++ t) z5 k (by omega) with e | ⟨M, m, e, hm⟩
    · rw [e, Option.bind_some, if_neg hb']
      rfl
    · exact absurd (stack_wide hs ht hm (by simp)) h
theorem stack_j1' {N N' : Nat} {l l' : List S39} {s t : ByteArray} (hs : IsText N l s.data.toList) (ht : IsText N' l' t.data.toList) (k : Nat) (hk : 600 < k) : laws_FnGridStack.j1 k s t false (N : Int) l (N' : Int) l' = some true := by
  obtain ⟨k, rfl⟩ : ∃ m, k = m + 1 := ⟨k - 1, by omega⟩
  obtain ⟨R, a1, a5, r1, r5, hl, hsz, hall, hat⟩ := hs.shape
  obtain ⟨R', b1, b5, q1, q5, hl', hsz', hall', hat'⟩ := ht.shape
  have hN : N = 1 ∨ N = 2 ∨ N = 3 ∨ N = 4 ∨ N = 5 := by omega
  have hN' : N' = 1 ∨ N' = 2 ∨ N' = 3 ∨ N' = 4 ∨ N' = 5 := by omega
  have y1 : l.length ≤ 25 := by rcases hN with rfl | rfl | rfl | rfl | rfl <;> omega
  have y2 : l'.length ≤ 25 := by rcases hN' with rfl | rfl | rfl | rfl | rfl <;> omega
  rw [laws_FnGridStack.j1, if_neg (by decide), Option.bind_some, if_pos (by simp only [List.length_nil]; omega), Option.bind_some, List.nil_append, if_pos (by omega), Option.bind_some, w64 (5 * (N : Int)) (by omega) (by omega)]
  by_cases h : (N : Int) = (N' : Int)
  · rw [if_pos h]
    refine stack_j2 hs ht _ ?_ k (by omega)
    rw [decide_eq_true_eq, List.length_append]
    omega
  · rw [if_neg h]
    refine stack_j2 hs ht _ ?_ k (by omega)
    constructor
    · intro x
      cases x
    · intro x
      omega
theorem FnGridStack : laws_FnGridStack.Pure := by
  intro l0 l1 _ _ hw _ _ hw1
  refine ⟨1000, ?_⟩
  obtain ⟨n, l, e, hl⟩ := drawGridText_some l0 (bytes_of hw) 999 (by omega)
  obtain ⟨n', l', e', hl'⟩ := drawGridText_some l1 (bytes_of hw1) 999 (by omega)
  unfold laws_FnGridStack.f
  have J : laws_FnGridStack.j0 1000 l0 l1 false = some true := by
    rw [laws_FnGridStack.j0, if_neg (by decide), e, Option.bind_some, e', Option.bind_some, impl_GridText_some n l (by omega) 999 (by omega), Option.bind_some, impl_GridText_some n' l' (by omega) 999 (by omega), Option.bind_some, spec_GridText_some n l (by omega) 999 (by omega), Option.bind_some, if_pos rfl, spec_GridText_some n' l' (by omega) 999 (by omega), Option.bind_some, if_pos rfl]
    by_cases h : (textOf n l).toList = []
    · rw [if_pos h]
      exact stack_j1 n n' l l' hl hl' 999 (by omega)
    · rw [if_neg h]
      by_cases h' : (textOf n' l').toList = []
      · rw [h']
        exact stack_j1 n n' l l' hl hl' 999 (by omega)
      · rw [show ((textOf n' l').toList == ([] : List UInt8)) = false from beq_eq_false_iff_ne.mpr h']
        have g : gridOkB n l = true := by
          cases hg : gridOkB n l with
          | true => rfl
          | false => exact absurd (textOf_nil.2 hg) h
        have g' : gridOkB n' l' = true := by
          cases hg : gridOkB n' l' with
          | true => rfl
          | false => exact absurd (textOf_nil.2 hg) h'
        obtain ⟨N, rfl, hI⟩ := textOf_is g
        obtain ⟨N', rfl, hI'⟩ := textOf_is g'
        exact stack_j1' hI hI' 999 (by omega)
  have T : laws_FnGridStack.j0 1000 l0 l1 true = some true := by
    rw [laws_FnGridStack.j0, if_pos rfl]
  split
  · exact T
  · cases decide ((l1.length : Int) > 1048576)
    · exact J
    · exact T
end Go.Proofs.Ytpjdhpkfenohgaa.Pure
