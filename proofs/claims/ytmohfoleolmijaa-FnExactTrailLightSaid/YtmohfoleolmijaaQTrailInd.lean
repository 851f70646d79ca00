/- PROVED: what holds of all ways of light, by one induction; what ends, and what is visited. Condition: the grid is valid. -/
import Derived.Test.YtmohfoleolmijaaQTrailSpec
namespace Go.Proofs.Ytmohfoleolmijaa.P
open Go.RowKit Go.Proofs.YtmohfoleolmijaaW.PrintWords Go.Proofs.YtmohfoleolmijaaW.PrintLast Go.Proofs.YtmohfoleolmijaaW.PrintMore
set_option linter.unusedVariables false
set_option linter.unusedSimpArgs false
/-- One induction for all. -/
theorem come_ind {G : Way} {m : Nat} (hG : G.Ok m) (P Q : Int → Int → Int → List TV → List TE → Prop)
    (hzero : ∀ a d, inW m (a, d) → Q a d 0 [] [])
    (hout : ∀ a d w, inW m (a, d) → 0 < w → G.nx a d = none → Q a d w [] [⟨0, G.so a d, w⟩])
    (hin : ∀ a d w b vs es, inW m (a, d) → inW m (b, d) → 0 < w → G.nx a d = some b → P b d w vs es → Q a d w vs es)
    (hstep : ∀ a d w (v1 v2 : List TV) (e1 e2 : List TE), inW m (a, d) → 0 < w → Q a d (spreadP (G.kd a) w).pass v1 e1 → Q a (G.tn (G.kd a) d) (spreadP (G.kd a) w).turn v2 e2 → P a d w (⟨a, d, w⟩ :: (v1 ++ v2)) (endL (stopK (G.kd a)) a (spreadP (G.kd a) w).stop ++ (endL 3 a (spreadP (G.kd a) w).lost ++ (e1 ++ e2)))) :
    ∀ (q : Nat) (a d w : Int) (vs : List TV) (es : List TE), inW m (a, d) → 0 < w → come G q a d w = some (vs, es) → P a d w vs es
  | 0, a, d, w, vs, es, hs, hw, h => by cases h
  | q + 1, a, d, w, vs, es, hs, hw, h => by
    have ih := come_ind hG P Q hzero hout hin hstep q
    obtain ⟨ha, ham, hd, hd3⟩ := hs
    simp only at ha ham hd hd3
    have lv : ∀ d' w' v s, 0 ≤ d' → d' < 4 → 0 ≤ w' → leaveW G (come G q) a d' w' = some (v, s) → Q a d' w' v s := by
      intro d' w' v s g1 g2 g3 hx
      unfold leaveW at hx
      by_cases hz : w' = 0
      · rw [if_pos hz] at hx
        obtain ⟨rfl, rfl⟩ := Prod.mk.inj (Option.some.inj hx)
        rw [hz]
        exact hzero a d' ⟨ha, ham, g1, g2⟩
      · rw [if_neg hz] at hx
        cases hb : G.nx a d' with
        | none =>
          rw [hb] at hx
          obtain ⟨rfl, rfl⟩ := Prod.mk.inj (Option.some.inj hx)
          have := hout a d' w' ⟨ha, ham, g1, g2⟩ (by omega) hb
          unfold endL
          rw [if_pos (by omega)]
          exact this
        | some b =>
          rw [hb] at hx
          obtain ⟨b0, b1⟩ := hG.nin a d' b ha ham g1 g2 hb
          exact hin a d' w' b v s ⟨ha, ham, g1, g2⟩ ⟨b0, b1, g1, g2⟩ (by omega) hb (ih b d' w' v s ⟨b0, b1, g1, g2⟩ (by omega) hx)
    obtain ⟨_, s1, s2, _⟩ := spread_sum (k := G.kd a) (Int.le_of_lt hw)
    obtain ⟨t0, t1⟩ := hG.tin (G.kd a) d hd hd3
    rw [come] at h
    obtain ⟨⟨v1, e1⟩, f1, h⟩ := Option.bind_eq_some_iff.1 h
    obtain ⟨⟨v2, e2⟩, f2, h⟩ := Option.bind_eq_some_iff.1 h
    obtain ⟨rfl, rfl⟩ := Prod.mk.inj (Option.some.inj h)
    exact hstep a d w v1 v2 e1 e2 ⟨ha, ham, hd, hd3⟩ hw (lv d _ v1 e1 hd hd3 s1 f1) (lv _ _ v2 e2 t0 t1 s2 f2)
/-- An end is at a sight, or in a cell; in a lamp just if it says so. -/
def EndOk (G : Way) (m s : Nat) (e : TE) : Prop := (e.f0 = 0 ∧ 0 ≤ e.f1 ∧ e.f1 < (s : Int)) ∨ (1 ≤ e.f0 ∧ e.f0 ≤ 3 ∧ 0 ≤ e.f1 ∧ e.f1 < (m : Int) ∧ (e.f0 = 2 → G.kd e.f1 = 7))
theorem mem_endL {k a w : Int} {e : TE} (h : e ∈ endL k a w) : 0 < w ∧ e = ⟨k, a, w⟩ := by
  unfold endL at h
  split at h
  · exact ⟨by assumption, List.mem_singleton.1 h⟩
  · cases h
theorem stop_pos {k w : Int} (h : 0 < (spreadP k w).stop) : k = 1 ∨ k = 7 := by
  unfold spreadP at h
  by_cases h0 : k = 0
  · rw [if_pos h0] at h
    exact absurd (show (0 : Int) < 0 from h) (by decide)
  rw [if_neg h0] at h
  by_cases h1 : k = 1 ∨ k = 7
  · exact h1
  rw [if_neg h1] at h
  repeat' split at h
  all_goals exact absurd (show (0 : Int) < 0 from h) (by decide)
section
variable {i j : Nat} (hi : i < 5) (hj : j < 5) {l : List S57} (h : okG i j l)
include hi hj h
theorem come_ends (q : Nat) (a d w : Int) (vs : List TV) (es : List TE) (hs : inW l.length (a, d)) (hw : 0 < w) (hc : come (wayOf ((i + 1 : Nat) : Int) l) q a d w = some (vs, es)) : ∀ e ∈ es, EndOk (wayOf ((i + 1 : Nat) : Int) l) l.length (sN i j) e := by
  refine come_ind (way_ok hi hj h) (fun _ _ _ _ es => ∀ e ∈ es, EndOk (wayOf ((i + 1 : Nat) : Int) l) l.length (sN i j) e) (fun _ _ _ _ es => ∀ e ∈ es, EndOk (wayOf ((i + 1 : Nat) : Int) l) l.length (sN i j) e) ?_ ?_ ?_ ?_ q a d w vs es hs hw hc
  · intro a d _ e he
    cases he
  · intro a d w hs hw hn e he
    obtain rfl := List.mem_singleton.1 he
    obtain ⟨o1, o2, _⟩ := out_of hi hj h hs.1 hs.2.1 hs.2.2.1 hs.2.2.2 hn
    exact .inl ⟨rfl, o1, o2⟩
  · intro a d w b vs es _ _ _ _ hp
    exact hp
  · intro a d w v1 v2 e1 e2 hs hw h1 h2 e he
    simp only [List.mem_append] at he
    rcases he with he | he | he | he
    · obtain ⟨hp, rfl⟩ := mem_endL he
      have hk := stop_pos hp
      refine .inr ⟨?_, ?_, hs.1, hs.2.1, ?_⟩
      · show 1 ≤ stopK _
        unfold stopK
        split <;> omega
      · show stopK _ ≤ 3
        unfold stopK
        split <;> omega
      · intro h2
        replace h2 : stopK ((wayOf ((i + 1 : Nat) : Int) l).kd a) = 2 := h2
        unfold stopK at h2
        split at h2
        · assumption
        · cases h2
    · obtain ⟨hp, rfl⟩ := mem_endL he
      exact .inr ⟨show (1 : Int) ≤ 3 by decide, show (3 : Int) ≤ 3 by decide, hs.1, hs.2.1, fun h2 => absurd (show (3 : Int) = 2 from h2) (by decide)⟩
    · exact h1 e he
    · exact h2 e he
theorem come_visits (q : Nat) (a d w : Int) (vs : List TV) (es : List TE) (hs : inW l.length (a, d)) (hw : 0 < w) (hc : come (wayOf ((i + 1 : Nat) : Int) l) q a d w = some (vs, es)) : (∃ r, vs = ⟨a, d, w⟩ :: r) ∧ ∀ v ∈ vs, 1 ≤ v.f2 ∧ v.f2 ≤ w ∧ inW l.length (v.f0, v.f1) := by
  refine come_ind (way_ok hi hj h) (fun a d w vs _ => (∃ r, vs = ⟨a, d, w⟩ :: r) ∧ ∀ v ∈ vs, 1 ≤ v.f2 ∧ v.f2 ≤ w ∧ inW l.length (v.f0, v.f1)) (fun _ _ w vs _ => ∀ v ∈ vs, 1 ≤ v.f2 ∧ v.f2 ≤ w ∧ inW l.length (v.f0, v.f1)) ?_ ?_ ?_ ?_ q a d w vs es hs hw hc
  · intro a d _ v hv
    cases hv
  · intro a d w _ _ _ v hv
    cases hv
  · intro a d w b vs es _ _ _ _ hp
    exact hp.2
  · intro a d w v1 v2 e1 e2 hs hw h1 h2
    obtain ⟨_, _, _, _, _, p1, p2⟩ := spread_sum (k := (wayOf ((i + 1 : Nat) : Int) l).kd a) (Int.le_of_lt hw)
    refine ⟨⟨_, rfl⟩, fun v hv => ?_⟩
    rcases List.mem_cons.1 hv with rfl | hv
    · exact ⟨hw, Int.le_refl _, hs⟩
    · rcases List.mem_append.1 hv with hv | hv
      · obtain ⟨q1, q2, q3⟩ := h1 v hv
        exact ⟨q1, by omega, q3⟩
      · obtain ⟨q1, q2, q3⟩ := h2 v hv
        exact ⟨q1, by omega, q3⟩
theorem trail_facts {k : Int} (hk : 0 ≤ k) (hks : k < (sN i j : Int)) : sumW (trailP ((i + 1 : Nat) : Int) l k).2 = 64 ∧ (∀ e ∈ (trailP ((i + 1 : Nat) : Int) l k).2, 1 ≤ e.f2 ∧ e.f2 ≤ 64 ∧ EndOk (wayOf ((i + 1 : Nat) : Int) l) l.length (sN i j) e) ∧ (∃ r, (trailP ((i + 1 : Nat) : Int) l k).1 = ⟨(sightAt ((i + 1 : Nat) : Int) l.length k).1, (sightAt ((i + 1 : Nat) : Int) l.length k).2, 64⟩ :: r) ∧ (∀ v ∈ (trailP ((i + 1 : Nat) : Int) l k).1, 1 ≤ v.f2 ∧ v.f2 ≤ 64 ∧ inW l.length (v.f0, v.f1)) := by
  obtain ⟨e, _, _⟩ := trailP_of hi hj h hk hks
  have hs := (sight_in hi hj h hk hks).1
  generalize trailP ((i + 1 : Nat) : Int) l k = r at *
  obtain ⟨vs, es⟩ := r
  obtain ⟨h1, h2⟩ := come_sum _ _ _ 64 vs es (by decide) e
  have h3 := come_ends hi hj h _ _ _ 64 vs es hs (by decide) e
  obtain ⟨h4, h5⟩ := come_visits hi hj h _ _ _ 64 vs es hs (by decide) e
  refine ⟨h1, fun x hx => ⟨h2 x hx, ?_, h3 x hx⟩, h4, h5⟩
  have : ∀ (s : List TE), (∀ x ∈ s, 1 ≤ x.f2) → ∀ x ∈ s, x.f2 ≤ sumW s := by
    intro s
    induction s with
    | nil => intro _ x hx; cases hx
    | cons y s ih =>
      intro hp x hx
      have hn : 0 ≤ sumW s := by
        have := sumW_len s (fun z hz => hp z (by simp [hz]))
        omega
      simp only [sumW]
      rcases List.mem_cons.1 hx with rfl | hx
      · omega
      · have := ih (fun z hz => hp z (by simp [hz])) x hx
        have := hp y (by simp)
        omega
  have := this es h2 x hx
  omega
end
end Go.Proofs.Ytmohfoleolmijaa.P
