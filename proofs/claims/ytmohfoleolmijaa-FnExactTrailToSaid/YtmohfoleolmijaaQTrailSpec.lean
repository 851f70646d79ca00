/- PROVED: the reference's walk goes the way of light: TrailEnds and TrailVisits. Condition: the grid has at most 26 cells. -/
import Derived.Test.YtmohfoleolmijaaQWay
import Derived.Test.YtmohfoleolmijaaT3Go
namespace Go.Proofs.Ytmohfoleolmijaa.P
open Go.RowKit Go.Proofs.YtmohfoleolmijaaW.PrintWords Go.Proofs.YtmohfoleolmijaaW.PrintLast Go.Proofs.YtmohfoleolmijaaW.PrintMore
set_option linter.unusedVariables false
set_option linter.unusedSimpArgs false
theorem wtdiv {x : Int} (h : 0 ≤ x) (h2 : x ≤ 64) : wrap64 (Int.tdiv x 2) = Int.tdiv x 2 := by
  have := halfT h
  exact w64 _ (by omega) (by omega)
theorem l3Of_some {n : Int} {l : List S57} (h : shapeB n l.length = true) {a d : Int} (ha : 0 ≤ a) (hal : a < (l.length : Int)) (hd : 0 ≤ d) (hd3 : d < 4) (k : Nat) (hk : 30 < k) : spec_l3Of.f k n l a d = some (sightOfB n l.length a d) := by
  have hs := sights_in h
  unfold spec_l3Of.f
  have e3 := spec_l3Of_l0 h a d (sights n l.length).toNat k 0 (by omega) (by omega)
  rw [show ((0 : Nat) : Int) = 0 from rfl] at e3
  rw [e3]
  obtain ⟨i, j, hi, hj, hn, hm⟩ := shape_ij h
  obtain ⟨a, rfl⟩ := nat_of ha
  obtain ⟨d, rfl⟩ := nat_of hd
  rw [hm, hn, first_last i j a d hi hj (by omega) (by omega)]
section
variable {i j : Nat} (hi : i < 5) (hj : j < 5) {l : List S57} (h : okG i j l)
include hi hj h
theorem leaveC_eq (k : Nat) (hk : 30 < k) (c c' : Int → Int → Int → TR) {a d w : Int} (ha : 0 ≤ a) (hal : a < (l.length : Int)) (hd : 0 ≤ d) (hd3 : d < 4) (hw : 0 < w) (hc : ∀ b, 0 ≤ b → b < (l.length : Int) → c b d w = c' b d w) :
    leaveC k ((i + 1 : Nat) : Int) l c a d w = leaveW (wayOf ((i + 1 : Nat) : Int) l) c' a d w := by
  have hs := okG_shape hi hj h
  unfold leaveC leaveW
  rw [spec_l2Next_some hs a d ha hal hd (by omega), if_neg (by omega)]
  simp only [Option.bind_some]
  by_cases hb : (stepOf ((i + 1 : Nat) : Int) l.length a d).2.2 = true
  · have e : (wayOf ((i + 1 : Nat) : Int) l).nx a d = some (stepOf ((i + 1 : Nat) : Int) l.length a d).1 := if_pos hb
    obtain ⟨b0, b1⟩ := (way_ok hi hj h).nin a d _ ha hal hd hd3 e
    rw [if_pos hb, e]
    exact hc _ b0 b1
  · have e : (wayOf ((i + 1 : Nat) : Int) l).nx a d = none := if_neg hb
    rw [if_neg hb, e, l3Of_some hs ha hal hd hd3 k hk]
    rfl
theorem comeC_eq (k : Nat) (hk : 30 < k) : ∀ (q : Nat) (a d w : Int), 0 ≤ a → a < (l.length : Int) → 0 ≤ d → d < 4 → 0 < w → w ≤ 64 → comeC k ((i + 1 : Nat) : Int) l q a d w = come (wayOf ((i + 1 : Nat) : Int) l) q a d w
  | 0, a, d, w, ha, hal, hd, hd3, hw, hw6 => rfl
  | q + 1, a, d, w, ha, hal, hd, hd3, hw, hw6 => by
    have ih := comeC_eq k hk q
    have hx := halfT (Int.le_of_lt hw)
    have lv : ∀ d' w', 0 ≤ d' → d' < 4 → 0 < w' → w' ≤ 64 → leaveC k ((i + 1 : Nat) : Int) l (comeC k ((i + 1 : Nat) : Int) l q) a d' w' = leaveW (wayOf ((i + 1 : Nat) : Int) l) (come (wayOf ((i + 1 : Nat) : Int) l) q) a d' w' := fun d' w' h1 h2 h3 h4 =>
      leaveC_eq hi hj h k hk _ _ ha hal h1 h2 h3 (fun b hb0 hb1 => ih b d' w' hb0 hb1 h1 h2 h3 h4)
    have hv : ∀ d' w', 0 ≤ d' → d' < 4 → 0 ≤ w' → w' ≤ 64 → halfC k ((i + 1 : Nat) : Int) l (comeC k ((i + 1 : Nat) : Int) l q) a d' w' = leaveW (wayOf ((i + 1 : Nat) : Int) l) (come (wayOf ((i + 1 : Nat) : Int) l) q) a d' w' := fun d' w' h1 h2 h3 h4 => by
      unfold halfC
      by_cases hz : 0 < w'
      · rw [if_pos hz, lv d' w' h1 h2 hz h4]
      · rw [if_neg hz]
        unfold leaveW
        rw [if_pos (by omega)]
    have hkd : (wayOf ((i + 1 : Nat) : Int) l).kd a = (rd_T57 l a).f0 := rfl
    have htn : ∀ f, (wayOf ((i + 1 : Nat) : Int) l).tn f d = dirTurn f d := fun _ => rfl
    obtain ⟨kk, rfl⟩ : ∃ m, k = m + 1 := ⟨k - 1, by omega⟩
    have hdt : ∀ f, spec_DirTurn.f (kk + 1) f d = some (dirTurn f d) := fun f => by rw [spec_DirTurn_some, if_pos ⟨hd, by omega⟩]
    have hkin := (way_ok hi hj h).kin a ha hal
    have z1 : ∀ kd at_, endL kd at_ 0 = [] := fun _ _ => rfl
    have z2 : ∀ d', leaveW (wayOf ((i + 1 : Nat) : Int) l) (come (wayOf ((i + 1 : Nat) : Int) l) q) a d' 0 = some ([], []) := fun _ => if_pos rfl
    simp only [comeC, come, hkd, htn]
    rw [hkd] at hkin
    generalize (rd_T57 l a).f0 = f at *
    have ht := turn_in f d hd hd3
    rw [if_neg (by omega), if_pos ha, if_pos hal, wtdiv (Int.le_of_lt hw) hw6, w64 (w - Int.tdiv w 2) (by omega) (by omega), w64 (2 * Int.tdiv w 2) (by omega) (by omega), w64 (w - 2 * Int.tdiv w 2) (by omega) (by omega), hdt f, hv d _ hd hd3 hx.1 (by omega)]
    simp only [Option.bind_some]
    have hc : f = 0 ∨ f = 1 ∨ f = 2 ∨ f = 3 ∨ f = 4 ∨ f = 5 ∨ f = 6 ∨ f = 7 := by omega
    have e45 : w - Int.tdiv w 2 - Int.tdiv w 2 = w - 2 * Int.tdiv w 2 := by omega
    rcases hc with rfl | rfl | rfl | rfl | rfl | rfl | rfl | rfl
    · have e : spreadP 0 w = ⟨w, 0, 0, 0⟩ := rfl
      have et : dirTurn 0 d = d := rfl
      simp only [e, et, z1, z2, Option.bind_some, List.nil_append, List.append_nil]
      rw [if_neg (by decide), if_neg (by decide), if_neg (by decide), if_neg (by decide), lv d w hd hd3 hw hw6]
    · have e : spreadP 1 w = ⟨0, 0, 0, w⟩ := rfl
      have es : stopK 1 = 1 := rfl
      simp only [e, es, z1, z2, Option.bind_some, List.nil_append, List.append_nil]
      rw [if_pos trivial]
    · have e : spreadP 2 w = ⟨0, w, 0, 0⟩ := rfl
      simp only [e, z1, z2, Option.bind_some, List.nil_append, List.append_nil]
      rw [if_neg (by decide), if_neg (by decide), if_neg (by decide), if_neg (by decide), lv _ w ht.1 ht.2 hw hw6]
    · have e : spreadP 3 w = ⟨0, w, 0, 0⟩ := rfl
      simp only [e, z1, z2, Option.bind_some, List.nil_append, List.append_nil]
      rw [if_neg (by decide), if_neg (by decide), if_neg (by decide), if_neg (by decide), lv _ w ht.1 ht.2 hw hw6]
    · have e : spreadP 4 w = ⟨Int.tdiv w 2, Int.tdiv w 2, w - Int.tdiv w 2 - Int.tdiv w 2, 0⟩ := rfl
      simp only [e, z1, Option.bind_some, List.nil_append, e45]
      rw [if_neg (by decide), if_neg (by decide), if_neg (by decide), if_pos (by decide), hv _ _ ht.1 ht.2 hx.1 (by omega)]
    · have e : spreadP 5 w = ⟨Int.tdiv w 2, Int.tdiv w 2, w - Int.tdiv w 2 - Int.tdiv w 2, 0⟩ := rfl
      simp only [e, z1, Option.bind_some, List.nil_append, e45]
      rw [if_neg (by decide), if_neg (by decide), if_neg (by decide), if_pos (by decide), hv _ _ ht.1 ht.2 hx.1 (by omega)]
    · have e : spreadP 6 w = ⟨Int.tdiv w 2, 0, w - Int.tdiv w 2, 0⟩ := rfl
      simp only [e, z1, z2, Option.bind_some, List.nil_append, List.append_nil]
      rw [if_neg (by decide), if_neg (by decide), if_pos trivial]
    · have e : spreadP 7 w = ⟨0, 0, 0, w⟩ := rfl
      have es : stopK 7 = 2 := rfl
      simp only [e, es, z1, z2, Option.bind_some, List.nil_append, List.append_nil]
      rw [if_neg (by decide), if_pos trivial]
theorem l11Go_some {a : Int} (ha : 0 ≤ a) (has : a < (sN i j : Int)) (k : Nat) (hk : 1000 ≤ k) : ∃ vs es, spec_l11Go.f k ((i + 1 : Nat) : Int) l a = some (vs, es) ∧ come (wayOf ((i + 1 : Nat) : Int) l) k (sightAt ((i + 1 : Nat) : Int) l.length a).1 (sightAt ((i + 1 : Nat) : Int) l.length a).2 64 = some (vs, es) ∧ vs.length ≤ 12700 ∧ es.length ≤ 64 := by
  obtain ⟨vs, es, e, h1, h2⟩ := trail_some hi hj h ha has k (by omega)
  have hs := okG_shape hi hj h
  have hsi := sights_ij i j hi hj
  rw [← h.1] at hsi
  obtain ⟨⟨x0, x1, x2, x3⟩, _⟩ := sight_in hi hj h ha has
  refine ⟨vs, es, ?_, e, h1, h2⟩
  unfold spec_l11Go.f
  rw [spec_l3Ray_some hs a ha (by omega)]
  simp only [Option.bind_some]
  rw [comeC_eq hi hj h k (by omega) k _ _ 64 x0 x1 x2 x3 (by decide) (by decide), e]
  simp only [Option.bind_some]
  rw [if_pos ⟨by omega, by omega⟩]
end
theorem come_more (G : Way) : ∀ (q : Nat) (a d w : Int) (r : List TV × List TE), come G q a d w = some r → come G (q + 1) a d w = some r
  | 0, a, d, w, r, h => by cases h
  | q + 1, a, d, w, r, h => by
    have ih := come_more G q
    have lv : ∀ d' w' r', leaveW G (come G q) a d' w' = some r' → leaveW G (come G (q + 1)) a d' w' = some r' := by
      intro d' w' r' h'
      unfold leaveW at h' ⊢
      by_cases hz : w' = 0
      · rw [if_pos hz] at h' ⊢
        exact h'
      · rw [if_neg hz] at h' ⊢
        cases hb : G.nx a d' with
        | none =>
          rw [hb] at h'
          exact h'
        | some b =>
          rw [hb] at h'
          exact ih b d' w' r' h'
    rw [come] at h ⊢
    obtain ⟨p1, f1, h⟩ := Option.bind_eq_some_iff.1 h
    obtain ⟨p2, f2, h⟩ := Option.bind_eq_some_iff.1 h
    rw [lv _ _ _ f1]
    simp only [Option.bind_some]
    rw [lv _ _ _ f2]
    exact h
theorem come_le (G : Way) {q q' : Nat} (hq : q ≤ q') {a d w : Int} {r : List TV × List TE} (h : come G q a d w = some r) : come G q' a d w = some r := by
  induction hq with
  | refl => exact h
  | step _ ih => exact come_more G _ a d w r ih
theorem come_one (G : Way) {q q' : Nat} {a d w : Int} {r r' : List TV × List TE} (h : come G q a d w = some r) (h' : come G q' a d w = some r') : r = r' := by
  rcases Nat.le_total q q' with hq | hq
  · have := come_le G hq h
    rw [this] at h'
    exact Option.some.inj h'
  · have := come_le G hq h'
    rw [this] at h
    exact (Option.some.inj h).symm
/-- What trailP tells of a sight. -/
theorem trailP_of {i j : Nat} (hi : i < 5) (hj : j < 5) {l : List S57} (h : okG i j l) {k : Int} (hk : 0 ≤ k) (hks : k < (sN i j : Int)) : come (wayOf ((i + 1 : Nat) : Int) l) 1000 (sightAt ((i + 1 : Nat) : Int) l.length k).1 (sightAt ((i + 1 : Nat) : Int) l.length k).2 64 = some (trailP ((i + 1 : Nat) : Int) l k) ∧ (trailP ((i + 1 : Nat) : Int) l k).1.length ≤ 12700 ∧ (trailP ((i + 1 : Nat) : Int) l k).2.length ≤ 64 := by
  obtain ⟨vs, es, e, h1, h2⟩ := trail_some hi hj h hk hks 1000 (by omega)
  have hsi := sights_ij i j hi hj
  rw [← h.1] at hsi
  have : trailP ((i + 1 : Nat) : Int) l k = (vs, es) := by
    unfold trailP
    rw [if_pos ⟨okG_grid hi hj h, hk, by omega⟩, e]
    rfl
  rw [this]
  exact ⟨e, h1, h2⟩
theorem trailP_no {n : Int} {l : List S57} {k : Int} (h : ¬ (gridOkB n l = true ∧ 0 ≤ k ∧ k < sights n l.length)) : trailP n l k = ([], []) := by
  unfold trailP
  rw [if_neg h]
theorem trailP_len (n : Int) (l : List S57) (k : Int) : (trailP n l k).1.length ≤ 12700 ∧ (trailP n l k).2.length ≤ 64 := by
  by_cases h : gridOkB n l = true ∧ 0 ≤ k ∧ k < sights n l.length
  · obtain ⟨hg, h0, h1⟩ := h
    obtain ⟨i, j, hi, hj, rfl, ho⟩ := okG_of hg
    have hsi := sights_ij i j hi hj
    rw [← ho.1] at hsi
    exact (trailP_of hi hj ho h0 (by omega)).2
  · rw [trailP_no h]
    simp
theorem spec_l11Is_some (n : Int) (l : List S57) (a : Int) (hl : l.length ≤ 1099511627776) (k : Nat) (hk : l.length + 2 < k) : spec_l11Is.f k n l a = some (decide (gridOkB n l = true ∧ 0 ≤ a ∧ a < sights n l.length)) := by
  unfold spec_l11Is.f
  rw [spec_GridOk_some n l hl k hk]
  simp only [Option.bind_some]
  by_cases h : gridOkB n l = true
  · have hs := sights_in (shape_of h).1
    rw [if_pos h, spec_l3Many_some (shape_of h).1]
    simp only [Option.bind_some, l6In_some]
    rw [w64 _ (by omega) (by omega)]
    congr 1
    rw [Bool.eq_iff_iff]
    simp only [Bool.and_eq_true, decide_eq_true_eq, h, true_and]
    omega
  · rw [if_neg h]
    simp [h]
theorem l11Go_trail (n : Int) (l : List S57) (a : Int) (h : gridOkB n l = true ∧ 0 ≤ a ∧ a < sights n l.length) (k : Nat) (hk : 1000 ≤ k) : spec_l11Go.f k n l a = some (trailP n l a) := by
  obtain ⟨hg, h0, h1⟩ := h
  obtain ⟨i, j, hi, hj, rfl, ho⟩ := okG_of hg
  have hsi := sights_ij i j hi hj
  rw [← ho.1] at hsi
  obtain ⟨vs, es, e, e2, _⟩ := l11Go_some hi hj ho h0 (by omega) k hk
  rw [e, come_one _ e2 (trailP_of hi hj ho h0 (by omega)).1]
theorem spec_TrailEnds_some (n : Int) (l : List S57) (a : Int) (hl : l.length ≤ 1099511627776) (k : Nat) (hk : l.length + 1000 < k) : spec_TrailEnds.f k n l a = some (trailP n l a).2 := by
  unfold spec_TrailEnds.f
  rw [spec_l11Is_some n l a hl k (by omega)]
  simp only [Option.bind_some]
  by_cases h : gridOkB n l = true ∧ 0 ≤ a ∧ a < sights n l.length
  · rw [decide_eq_true h, if_pos rfl, l11Go_trail n l a h k (by omega)]
    rfl
  · rw [decide_eq_false h, if_neg (by decide), trailP_no h]
theorem spec_TrailVisits_some (n : Int) (l : List S57) (a : Int) (hl : l.length ≤ 1099511627776) (k : Nat) (hk : l.length + 1000 < k) : spec_TrailVisits.f k n l a = some (trailP n l a).1 := by
  unfold spec_TrailVisits.f
  rw [spec_l11Is_some n l a hl k (by omega)]
  simp only [Option.bind_some]
  by_cases h : gridOkB n l = true ∧ 0 ≤ a ∧ a < sights n l.length
  · rw [decide_eq_true h, if_pos rfl, l11Go_trail n l a h k (by omega)]
    rfl
  · rw [decide_eq_false h, if_neg (by decide), trailP_no h]
end Go.Proofs.Ytmohfoleolmijaa.P
