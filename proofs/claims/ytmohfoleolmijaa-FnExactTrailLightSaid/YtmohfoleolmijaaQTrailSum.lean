/- PROVED: TrailTo and TrailLight, both the program's and the reference's, sum what ends. Condition: the grid has at most 2^40 cells. -/
import Derived.Test.YtmohfoleolmijaaPx34
import Derived.Test.YtmohfoleolmijaaPx35
import Derived.Test.YtmohfoleolmijaaPx38
import Derived.Test.YtmohfoleolmijaaPx39
import Derived.Test.YtmohfoleolmijaaPx27
import Derived.Test.YtmohfoleolmijaaQTrailInd
import Derived.Test.YtmohfoleolmijaaQTrailImpl
namespace Go.Proofs.Ytmohfoleolmijaa.P
open Go.RowKit Go.Proofs.YtmohfoleolmijaaW.PrintWords Go.Proofs.YtmohfoleolmijaaW.PrintLast Go.Proofs.YtmohfoleolmijaaW.PrintMore
set_option linter.unusedVariables false
set_option linter.unusedSimpArgs false
theorem rd_end (es : List TE) (q : Nat) (h : q < es.length) : rd_T48 es (q : Int) = es[q] := by
  unfold rd_T48
  rw [Int.toNat_natCast, List.getD_eq_getElem?_getD, List.getElem?_eq_getElem h]
  rfl
/-- How much ends at a sight. -/
def outW (tt_ : Int) : List TE → Int
  | [] => 0
  | e :: l => (if e.f0 = 0 ∧ e.f1 = tt_ then e.f2 else 0) + outW tt_ l
/-- How bright it is by what ends in lamps. -/
def lampW (l : List S57) : List TE → Int
  | [] => 0
  | e :: r => (if e.f0 = 2 then e.f2 * (rd_T57 l e.f1).f1 else 0) + lampW l r
def Wt (es : List TE) : Prop := es.length ≤ 64 ∧ ∀ e ∈ es, 1 ≤ e.f2 ∧ e.f2 ≤ 64
theorem Wt.at_ {es : List TE} (h : Wt es) {q : Nat} (hq : q < es.length) : 1 ≤ es[q].f2 ∧ es[q].f2 ≤ 64 := h.2 _ (List.getElem_mem hq)
theorem impl_To_l0 (tt_ : Int) (es : List TE) (h : Wt es) : ∀ (r k q : Nat) (c : Int), q + r = es.length → r < k → 0 ≤ c → c + 64 * (r : Int) ≤ 100000 → impl_TrailTo.l0 k tt_ c es (es.length : Int) (q : Int) = some (c + outW tt_ (es.drop q))
  | 0, k, q, c, hq, hk, h0, h1 => by
    obtain ⟨k, rfl⟩ : ∃ m, k = m + 1 := ⟨k - 1, by omega⟩
    simp only [impl_TrailTo.l0]
    rw [if_neg (by omega), List.drop_eq_nil_of_le (by omega)]
    simp [outW]
  | r + 1, k, q, c, hq, hk, h0, h1 => by
    obtain ⟨k, rfl⟩ : ∃ m, k = m + 1 := ⟨k - 1, by omega⟩
    have hlt : q < es.length := by omega
    have hw := h.at_ hlt
    have hlen := h.1
    have i1 := impl_To_l0 tt_ es h r k (q + 1) c (by omega) (by omega) h0 (by omega)
    have i2 := impl_To_l0 tt_ es h r k (q + 1) (c + es[q].f2) (by omega) (by omega) (by omega) (by omega)
    rw [show ((q + 1 : Nat) : Int) = (q : Int) + 1 from by omega] at i1 i2
    simp only [impl_TrailTo.l0]
    rw [if_pos (by omega), if_pos (by omega), if_pos (by omega), rd_end es q hlt, w64 ((q : Int) + 1) (by omega) (by omega), w64 (c + es[q].f2) (by omega) (by omega), i1, i2, List.drop_eq_getElem_cons hlt]
    simp only [outW]
    by_cases a : es[q].f0 = 0
    · by_cases b : es[q].f1 = tt_
      · rw [if_pos a, if_pos b, if_pos ⟨a, b⟩]
        congr 1
        omega
      · rw [if_pos a, if_neg b, if_neg (fun x => b x.2)]
        congr 1
        omega
    · rw [if_neg a, if_neg (fun x => a x.1)]
      congr 1
      omega
theorem spec_To_l0 (tt_ : Int) (es : List TE) (h : Wt es) : ∀ (r k q : Nat) (c : Int), q + r = es.length → r < k → 0 ≤ c → c + 64 * (r : Int) ≤ 100000 → spec_TrailTo.l0 k tt_ c es (q : Int) = some (c + outW tt_ (es.drop q))
  | 0, k, q, c, hq, hk, h0, h1 => by
    obtain ⟨k, rfl⟩ : ∃ m, k = m + 1 := ⟨k - 1, by omega⟩
    simp only [spec_TrailTo.l0]
    rw [if_neg (by omega), List.drop_eq_nil_of_le (by omega)]
    simp [outW]
  | r + 1, k, q, c, hq, hk, h0, h1 => by
    obtain ⟨k, rfl⟩ : ∃ m, k = m + 1 := ⟨k - 1, by omega⟩
    have hlt : q < es.length := by omega
    have hw := h.at_ hlt
    have hlen := h.1
    have i1 := spec_To_l0 tt_ es h r k (q + 1) c (by omega) (by omega) h0 (by omega)
    have i2 := spec_To_l0 tt_ es h r k (q + 1) (c + es[q].f2) (by omega) (by omega) (by omega) (by omega)
    rw [show ((q + 1 : Nat) : Int) = (q : Int) + 1 from by omega] at i1 i2
    simp only [spec_TrailTo.l0]
    rw [if_pos (by omega), if_pos (by omega), rd_end es q hlt, w64 ((q : Int) + 1) (by omega) (by omega), w64 (c + es[q].f2) (by omega) (by omega), i1, i2, List.drop_eq_getElem_cons hlt]
    simp only [outW]
    by_cases a : es[q].f0 = 0
    · by_cases b : es[q].f1 = tt_
      · rw [if_pos a, if_pos b, if_pos ⟨a, b⟩]
        congr 1
        omega
      · rw [if_pos a, if_neg b, if_neg (fun x => b x.2)]
        congr 1
        omega
    · rw [if_neg a, if_neg (fun x => a x.1)]
      congr 1
      omega
/-- The ends in lamps of a valid grid. -/
def Lt (l : List S57) (es : List TE) : Prop := ∀ e ∈ es, e.f0 = 2 → 0 ≤ e.f1 ∧ e.f1 < (l.length : Int) ∧ 1 ≤ (rd_T57 l e.f1).f1 ∧ (rd_T57 l e.f1).f1 ≤ 9
theorem mul_small {x y : Int} (h1 : 1 ≤ x) (h2 : x ≤ 64) (h3 : 1 ≤ y) (h4 : y ≤ 9) : 1 ≤ x * y ∧ x * y ≤ 576 ∧ x * y ≤ 9 * x := by
  have : y = 1 ∨ y = 2 ∨ y = 3 ∨ y = 4 ∨ y = 5 ∨ y = 6 ∨ y = 7 ∨ y = 8 ∨ y = 9 := by omega
  rcases this with rfl | rfl | rfl | rfl | rfl | rfl | rfl | rfl | rfl <;> omega
theorem impl_Light_l0 (n : Int) (l : List S57) (es : List TE) (h : Wt es) (hl : Lt l es) : ∀ (r k q : Nat) (c : Int), q + r = es.length → r < k → 0 ≤ c → c + 576 * (r : Int) ≤ 100000 → impl_TrailLight.l0 k c es (es.length : Int) (q : Int) n l = some (c + lampW l (es.drop q))
  | 0, k, q, c, hq, hk, h0, h1 => by
    obtain ⟨k, rfl⟩ : ∃ m, k = m + 1 := ⟨k - 1, by omega⟩
    simp only [impl_TrailLight.l0]
    rw [if_neg (by omega), List.drop_eq_nil_of_le (by omega)]
    simp [lampW]
  | r + 1, k, q, c, hq, hk, h0, h1 => by
    obtain ⟨k, rfl⟩ : ∃ m, k = m + 1 := ⟨k - 1, by omega⟩
    have hlt : q < es.length := by omega
    have hw := h.at_ hlt
    have hlen := h.1
    have hm := hl _ (List.getElem_mem hlt)
    have i1 := impl_Light_l0 n l es h hl r k (q + 1) c (by omega) (by omega) h0 (by omega)
    rw [show ((q + 1 : Nat) : Int) = (q : Int) + 1 from by omega] at i1
    simp only [impl_TrailLight.l0]
    rw [if_pos (by omega), if_pos (by omega), if_pos (by omega), rd_end es q hlt, w64 ((q : Int) + 1) (by omega) (by omega), i1, List.drop_eq_getElem_cons hlt]
    simp only [lampW]
    by_cases a : es[q].f0 = 2
    · obtain ⟨m1, m2, m3, m4⟩ := hm a
      obtain ⟨p1, p2, _⟩ := mul_small hw.1 hw.2 m3 m4
      have i2 := impl_Light_l0 n l es h hl r k (q + 1) (c + es[q].f2 * (rd_T57 l es[q].f1).f1) (by omega) (by omega) (by omega) (by omega)
      rw [show ((q + 1 : Nat) : Int) = (q : Int) + 1 from by omega] at i2
      rw [if_pos a, if_pos m1, if_pos m2, w64 (es[q].f2 * _) (by omega) (by omega), w64 (c + _) (by omega) (by omega), i2, if_pos a]
      congr 1
      omega
    · rw [if_neg a, if_neg a]
      congr 1
      omega
theorem spec_Light_l0 (n : Int) (l : List S57) (es : List TE) (h : Wt es) (hl : Lt l es) : ∀ (r k q : Nat) (c : Int), q + r = es.length → r < k → 0 ≤ c → c + 576 * (r : Int) ≤ 100000 → spec_l11Light.l0 k es c (q : Int) n l = some (c + lampW l (es.drop q))
  | 0, k, q, c, hq, hk, h0, h1 => by
    obtain ⟨k, rfl⟩ : ∃ m, k = m + 1 := ⟨k - 1, by omega⟩
    simp only [spec_l11Light.l0]
    rw [if_neg (by omega), List.drop_eq_nil_of_le (by omega)]
    simp [lampW]
  | r + 1, k, q, c, hq, hk, h0, h1 => by
    obtain ⟨k, rfl⟩ : ∃ m, k = m + 1 := ⟨k - 1, by omega⟩
    have hlt : q < es.length := by omega
    have hw := h.at_ hlt
    have hlen := h.1
    have hm := hl _ (List.getElem_mem hlt)
    have i1 := spec_Light_l0 n l es h hl r k (q + 1) c (by omega) (by omega) h0 (by omega)
    rw [show ((q + 1 : Nat) : Int) = (q : Int) + 1 from by omega] at i1
    simp only [spec_l11Light.l0]
    rw [if_pos (by omega), if_pos (by omega), rd_end es q hlt, w64 ((q : Int) + 1) (by omega) (by omega), i1, List.drop_eq_getElem_cons hlt]
    simp only [lampW]
    by_cases a : es[q].f0 = 2
    · obtain ⟨m1, m2, m3, m4⟩ := hm a
      obtain ⟨p1, p2, _⟩ := mul_small hw.1 hw.2 m3 m4
      have i2 := spec_Light_l0 n l es h hl r k (q + 1) (c + es[q].f2 * (rd_T57 l es[q].f1).f1) (by omega) (by omega) (by omega) (by omega)
      rw [show ((q + 1 : Nat) : Int) = (q : Int) + 1 from by omega] at i2
      rw [if_pos a, if_pos m1, if_pos m2, w64 (es[q].f2 * _) (by omega) (by omega), w64 (c + _) (by omega) (by omega), i2, if_pos a]
      congr 1
      omega
    · rw [if_neg a, if_neg a]
      congr 1
      omega
theorem okB_lamp {k l : Int} (h : cellOkB k l = true) (e : k = 7) : 1 ≤ l ∧ l ≤ 9 := by
  unfold cellOkB at h
  rw [if_pos e] at h
  simpa using h
theorem trail_Wt (n : Int) (l : List S57) (a : Int) : Wt (trailP n l a).2 ∧ Lt l (trailP n l a).2 := by
  by_cases h : gridOkB n l = true ∧ 0 ≤ a ∧ a < sights n l.length
  · obtain ⟨hg, h0, h1⟩ := h
    obtain ⟨i, j, hi, hj, rfl, ho⟩ := okG_of hg
    have hsi := sights_ij i j hi hj
    rw [← ho.1] at hsi
    obtain ⟨_, f1, _⟩ := trail_facts hi hj ho h0 (show a < (sN i j : Int) by omega)
    refine ⟨⟨(trailP_len _ l a).2, fun e he => ⟨(f1 e he).1, (f1 e he).2.1⟩⟩, fun e he h2 => ?_⟩
    rcases (f1 e he).2.2 with ⟨e0, _⟩ | ⟨_, _, q1, q2, q3⟩
    · rw [e0] at h2
      cases h2
    · have := okB_lamp (kind_at ho q1 q2) (q3 h2)
      exact ⟨q1, q2, this.1, this.2⟩
  · rw [trailP_no h]
    exact ⟨⟨by simp, fun e he => by cases he⟩, fun e he => by cases he⟩
theorem impl_TrailTo_some (n : Int) (l : List S57) (a tt_ : Int) (hl : l.length ≤ 1099511627776) (k : Nat) (hk : l.length + 30000 ≤ k) : impl_TrailTo.f k n l a tt_ = some (outW tt_ (trailP n l a).2) := by
  unfold impl_TrailTo.f
  rw [impl_trailOf_some n l a hl k hk]
  simp only [Option.bind_some]
  have hw := (trail_Wt n l a).1
  have := impl_To_l0 tt_ (trailP n l a).2 hw (trailP n l a).2.length k 0 0 (by omega) (by have := hw.1; omega) (by omega) (by have := hw.1; omega)
  rw [show ((0 : Nat) : Int) = 0 from rfl] at this
  rw [this]
  simp
theorem spec_TrailTo_some (n : Int) (l : List S57) (a tt_ : Int) (hl : l.length ≤ 1099511627776) (k : Nat) (hk : l.length + 30000 ≤ k) : spec_TrailTo.f k n l a tt_ = some (outW tt_ (trailP n l a).2) := by
  unfold spec_TrailTo.f
  rw [spec_l11Is_some n l a hl k (by omega)]
  simp only [Option.bind_some]
  by_cases h : gridOkB n l = true ∧ 0 ≤ a ∧ a < sights n l.length
  · have hw := (trail_Wt n l a).1
    have := spec_To_l0 tt_ (trailP n l a).2 hw (trailP n l a).2.length k 0 0 (by omega) (by have := hw.1; omega) (by omega) (by have := hw.1; omega)
    rw [show ((0 : Nat) : Int) = 0 from rfl] at this
    unfold spec_l11GoE.f
    rw [decide_eq_true h, if_pos rfl, l11Go_trail n l a h k (by omega)]
    simp only [Option.bind_some]
    rw [this]
    simp
  · rw [decide_eq_false h, if_neg (by decide), trailP_no h]
    rfl
theorem impl_TrailLight_some (n : Int) (l : List S57) (a : Int) (hl : l.length ≤ 1099511627776) (k : Nat) (hk : l.length + 30000 ≤ k) : impl_TrailLight.f k n l a = some (lampW l (trailP n l a).2) := by
  unfold impl_TrailLight.f
  rw [impl_trailOf_some n l a hl k hk]
  simp only [Option.bind_some]
  obtain ⟨hw, hL⟩ := trail_Wt n l a
  have := impl_Light_l0 n l (trailP n l a).2 hw hL (trailP n l a).2.length k 0 0 (by omega) (by have := hw.1; omega) (by omega) (by have := hw.1; omega)
  rw [show ((0 : Nat) : Int) = 0 from rfl] at this
  rw [this]
  simp
theorem spec_TrailLight_some (n : Int) (l : List S57) (a : Int) (hl : l.length ≤ 1099511627776) (k : Nat) (hk : l.length + 30000 ≤ k) : spec_TrailLight.f k n l a = some (lampW l (trailP n l a).2) := by
  unfold spec_TrailLight.f
  rw [spec_l11Is_some n l a hl k (by omega)]
  simp only [Option.bind_some]
  by_cases h : gridOkB n l = true ∧ 0 ≤ a ∧ a < sights n l.length
  · obtain ⟨hw, hL⟩ := trail_Wt n l a
    have := spec_Light_l0 n l (trailP n l a).2 hw hL (trailP n l a).2.length k 0 0 (by omega) (by have := hw.1; omega) (by omega) (by have := hw.1; omega)
    rw [show ((0 : Nat) : Int) = 0 from rfl] at this
    unfold spec_l11GoE.f spec_l11Light.f
    rw [decide_eq_true h, if_pos rfl, l11Go_trail n l a h k (by omega)]
    simp only [Option.bind_some]
    rw [this]
    simp
  · rw [decide_eq_false h, if_neg (by decide), trailP_no h]
    rfl
end Go.Proofs.Ytmohfoleolmijaa.P
