/- PROVED: the program's trail goes the way of light: its stack is what is still to be followed. Condition: the grid has at most 2^40 cells. -/
import Derived.Test.YtmohfoleolmijaaPx33
import Derived.Test.YtmohfoleolmijaaQTrailSpec
import Derived.Test.YtmohfoleolmijaaH4Beam
import Derived.Test.YtmohfoleolmijaaT1Spread
namespace Go.Proofs.Ytmohfoleolmijaa.P
open Go.RowKit Go.Proofs.YtmohfoleolmijaaW.PrintWords Go.Proofs.YtmohfoleolmijaaW.PrintLast Go.Proofs.YtmohfoleolmijaaW.PrintMore
set_option linter.unusedVariables false
set_option linter.unusedSimpArgs false
abbrev TB := S88
theorem rd_top (stk : List TB) (b : TB) : rd_T88 (stk ++ [b]) (stk.length : Int) = b := by
  unfold rd_T88
  rw [Int.toNat_natCast, List.getD_eq_getElem?_getD]
  simp
theorem take_top (stk : List TB) (b : TB) : (stk ++ [b]).take ((stk.length : Int)).toNat = stk := by
  rw [Int.toNat_natCast]
  simp
theorem top_w (stk : List TB) (b : TB) (hs : stk.length ≤ 1000000) : wrap64 (((stk ++ [b]).length : Int) - 1) = (stk.length : Int) := by
  rw [List.length_append, List.length_singleton, w64 _ (by omega) (by omega)]
  omega
theorem pop_zero (k : Nat) (stk : List TB) (b : TB) (n : Int) (l : List S57) (V : List TV) (E : List TE) (hs : stk.length ≤ 1000000) (h : b.f0.f2 = 0) : impl_trailOf.l0 (k + 1) (stk ++ [b]) n l V E = impl_trailOf.l0 k stk n l V E := by
  have hl : ((stk ++ [b]).length : Int) = (stk.length : Int) + 1 := by simp
  simp only [impl_trailOf.l0, top_w stk b hs, rd_top, take_top, Option.bind_some]
  rw [if_pos (by omega), if_pos (by omega), if_pos (by omega), if_pos (by omega), if_pos h]
theorem pop_out (k : Nat) (stk : List TB) (b : TB) (n : Int) (l : List S57) (V : List TV) (E : List TE) (hs : stk.length ≤ 1000000) (hE : E.length ≤ 1000000) (h : b.f0.f2 ≠ 0) (h1 : 0 ≤ b.f1) : impl_trailOf.l0 (k + 1) (stk ++ [b]) n l V E = impl_trailOf.l0 k stk n l V (E ++ endL 0 b.f1 b.f0.f2) := by
  have hl : ((stk ++ [b]).length : Int) = (stk.length : Int) + 1 := by simp
  simp only [impl_trailOf.l0, top_w stk b hs, rd_top, take_top, Option.bind_some]
  rw [if_pos (by omega), if_pos (by omega), if_pos (by omega), if_pos (by omega), if_neg h, if_pos h1, if_pos (by omega)]
theorem pop_in (k : Nat) (stk : List TB) (a d w : Int) (n : Int) (l : List S57) (V : List TV) (E : List TE) (hs : stk.length ≤ 1000000) (hV : V.length ≤ 1000000) (hE : E.length ≤ 1000000) (hw : w ≠ 0) (ha : 0 ≤ a) (hal : a < (l.length : Int)) (f : Int) (hf : (rd_T57 l a).f0 = f) (sp : Spread) (hsp : impl_spreadOf.f f w = some (sp.pass, sp.turn, sp.lost, sp.stop)) (t : Int) (ht : impl_DirTurn.f f d = some t) (b c : Int × Int × Int × Int) (hb : impl_beamFrom.f n l a t sp.turn = some b) (hc : impl_beamFrom.f n l a d sp.pass = some c) :
    impl_trailOf.l0 (k + 1) (stk ++ [⟨⟨a, d, w⟩, -1⟩]) n l V E = impl_trailOf.l0 k ((stk ++ [⟨⟨b.1, b.2.1, b.2.2.1⟩, b.2.2.2⟩]) ++ [⟨⟨c.1, c.2.1, c.2.2.1⟩, c.2.2.2⟩]) n l (V ++ [⟨a, d, w⟩]) ((E ++ endL (stopK f) a sp.stop) ++ endL 3 a sp.lost) := by
  have hl : ((stk ++ [(⟨⟨a, d, w⟩, -1⟩ : TB)]).length : Int) = (stk.length : Int) + 1 := by simp
  have he : ∀ kk at_ x, (endL kk at_ x).length ≤ 1 := fun kk at_ x => by
    unfold endL
    split <;> simp
  have e1 := he (stopK f) a sp.stop
  have hle : (E ++ endL (stopK f) a sp.stop).length ≤ 1000001 := by
    rw [List.length_append]
    omega
  simp only [impl_trailOf.l0, top_w stk _ hs, rd_top, take_top, Option.bind_some, hf]
  rw [if_pos (by omega), if_pos (by omega), if_pos (by omega), if_pos (by omega), if_neg hw, if_neg (by omega), if_pos (by omega), if_pos ha, if_pos hal, hsp]
  simp only [Option.bind_some]
  rw [if_pos (by omega), if_pos (by omega), ht]
  simp only [Option.bind_some]
  rw [hb]
  simp only [Option.bind_some]
  rw [hc]
  simp only [Option.bind_some]
  rw [if_pos (by simp; omega), List.append_assoc stk]
  rfl
theorem spread_eq {f w : Int} (h0 : 0 ≤ f) (h7 : f ≤ 7) (hw : 0 ≤ w) (hw6 : w ≤ 64) : impl_spreadOf.f f w = some ((spreadP f w).pass, (spreadP f w).turn, (spreadP f w).lost, (spreadP f w).stop) := by
  have hx := halfT hw
  have e1 := wtdiv hw hw6
  have e2 : wrap64 (w - Int.tdiv w 2) = w - Int.tdiv w 2 := w64 _ (by omega) (by omega)
  have e3 : wrap64 (w - Int.tdiv w 2 - Int.tdiv w 2) = w - Int.tdiv w 2 - Int.tdiv w 2 := w64 _ (by omega) (by omega)
  unfold impl_spreadOf.f
  rw [e1, e2, e3]
  have hc : f = 0 ∨ f = 1 ∨ f = 2 ∨ f = 3 ∨ f = 4 ∨ f = 5 ∨ f = 6 ∨ f = 7 := by omega
  rcases hc with rfl | rfl | rfl | rfl | rfl | rfl | rfl | rfl <;> rfl
section
variable {i j : Nat} (hi : i < 5) (hj : j < 5) {l : List S57} (h : okG i j l)
include hi hj h
theorem beam_eq {a d : Int} (ha : 0 ≤ a) (hal : a < (l.length : Int)) (hd : 0 ≤ d) (hd3 : d < 4) (w : Int) : impl_beamFrom.f ((i + 1 : Nat) : Int) l a d w = some (match (wayOf ((i + 1 : Nat) : Int) l).nx a d with | some b => (b, d, w, -1) | none => (0, 0, w, (wayOf ((i + 1 : Nat) : Int) l).so a d)) := by
  have hs := okG_shape hi hj h
  have hm := okG_25 hi hj h
  unfold impl_beamFrom.f
  rw [impl_rayStep_some hs a d ha hal hd (by omega)]
  simp only [Option.bind_some]
  by_cases hb : (stepOf ((i + 1 : Nat) : Int) l.length a d).2.2 = true
  · have e : (wayOf ((i + 1 : Nat) : Int) l).nx a d = some (stepOf ((i + 1 : Nat) : Int) l.length a d).1 := if_pos hb
    have e2 : (stepOf ((i + 1 : Nat) : Int) l.length a d).2.1 = d := by
      revert hb
      unfold stepOf
      rcases dir_cases hd hd3 with rfl | rfl | rfl | rfl
      · rw [if_pos rfl]
        split
        · exact fun _ => rfl
        · exact fun hb => by cases hb
      · rw [if_neg (by decide), if_pos rfl]
        split
        · exact fun _ => rfl
        · exact fun hb => by cases hb
      · rw [if_neg (by decide), if_neg (by decide), if_pos rfl]
        split
        · exact fun _ => rfl
        · exact fun hb => by cases hb
      · rw [if_neg (by decide), if_neg (by decide), if_neg (by decide)]
        split
        · exact fun _ => rfl
        · exact fun hb => by cases hb
    rw [if_pos hb, e, e2]
  · have e : (wayOf ((i + 1 : Nat) : Int) l).nx a d = none := if_neg hb
    rw [if_neg hb, e, impl_SightOf_some _ l a d (by omega)]
    simp only [Option.bind_some]
    unfold sightOf
    rw [if_pos ⟨okG_grid hi hj h, hd, by omega⟩]
    rfl
theorem run_trail : ∀ (q : Nat) (a d w : Int) (vs : List TV) (es : List TE), 0 ≤ a → a < (l.length : Int) → 0 ≤ d → d < 4 → 0 < w → w ≤ 64 → come (wayOf ((i + 1 : Nat) : Int) l) q a d w = some (vs, es) → ∀ (K : Nat) (stk : List TB) (V : List TV) (E : List TE), stk.length + 2 * vs.length ≤ 100000 → V.length + vs.length ≤ 100000 → E.length + es.length ≤ 100000 →
    impl_trailOf.l0 (K + (2 * vs.length + 1)) (stk ++ [⟨⟨a, d, w⟩, -1⟩]) ((i + 1 : Nat) : Int) l V E = impl_trailOf.l0 K stk ((i + 1 : Nat) : Int) l (V ++ vs) (E ++ es)
  | 0, a, d, w, vs, es, ha, hal, hd, hd3, hw, hw6, hc, K, stk, V, E, h1, h2, h3 => by cases hc
  | q + 1, a, d, w, vs, es, ha, hal, hd, hd3, hw, hw6, hc, K, stk, V, E, h1, h2, h3 => by
    have ih := run_trail q
    have lv : ∀ d' w' (vs : List TV) (es : List TE), 0 ≤ d' → d' < 4 → 0 ≤ w' → w' ≤ 64 → leaveW (wayOf ((i + 1 : Nat) : Int) l) (come (wayOf ((i + 1 : Nat) : Int) l) q) a d' w' = some (vs, es) → ∃ b, impl_beamFrom.f ((i + 1 : Nat) : Int) l a d' w' = some b ∧ ∀ (K : Nat) (stk : List TB) (V : List TV) (E : List TE), stk.length + 2 * vs.length ≤ 100000 → V.length + vs.length ≤ 100000 → E.length + es.length ≤ 100000 →
        impl_trailOf.l0 (K + (2 * vs.length + 1)) (stk ++ [⟨⟨b.1, b.2.1, b.2.2.1⟩, b.2.2.2⟩]) ((i + 1 : Nat) : Int) l V E = impl_trailOf.l0 K stk ((i + 1 : Nat) : Int) l (V ++ vs) (E ++ es) := by
      intro d' w' vs es g1 g2 g3 g4 hx
      refine ⟨_, beam_eq hi hj h ha hal g1 g2 w', ?_⟩
      intro K stk V E k1 k2 k3
      unfold leaveW at hx
      by_cases hz : w' = 0
      · rw [if_pos hz] at hx
        obtain ⟨rfl, rfl⟩ := Prod.mk.inj (Option.some.inj hx)
        rw [List.append_nil, List.append_nil, show K + (2 * ([] : List TV).length + 1) = K + 1 from rfl]
        refine pop_zero K stk _ _ l V E (by omega) ?_
        show (match (wayOf ((i + 1 : Nat) : Int) l).nx a d' with | some b => (b, d', w', -1) | none => (0, 0, w', (wayOf ((i + 1 : Nat) : Int) l).so a d')).2.2.1 = 0
        cases (wayOf ((i + 1 : Nat) : Int) l).nx a d' <;> exact hz
      · rw [if_neg hz] at hx
        cases hb : (wayOf ((i + 1 : Nat) : Int) l).nx a d' with
        | none =>
          rw [hb] at hx
          obtain ⟨rfl, rfl⟩ := Prod.mk.inj (Option.some.inj hx)
          obtain ⟨o1, o2, _⟩ := out_of hi hj h ha hal g1 g2 hb
          rw [List.append_nil, show K + (2 * ([] : List TV).length + 1) = K + 1 from rfl]
          exact pop_out K stk _ _ l V E (by omega) (by omega) hz o1
        | some b =>
          rw [hb] at hx
          obtain ⟨b0, b1⟩ := (way_ok hi hj h).nin a d' b ha hal g1 g2 hb
          exact ih b d' w' vs es b0 b1 g1 g2 (by omega) g4 hx K stk V E k1 k2 k3
    have hkin := (way_ok hi hj h).kin a ha hal
    have hsp := spread_eq (f := (wayOf ((i + 1 : Nat) : Int) l).kd a) hkin.1 hkin.2 (Int.le_of_lt hw) hw6
    obtain ⟨s0, s1, s2, s3, s4, s5, s6⟩ := spread_sum (k := (wayOf ((i + 1 : Nat) : Int) l).kd a) (Int.le_of_lt hw)
    have htn := turn_in ((wayOf ((i + 1 : Nat) : Int) l).kd a) d hd hd3
    rw [come] at hc
    obtain ⟨⟨v1, e1⟩, f1, hc⟩ := Option.bind_eq_some_iff.1 hc
    obtain ⟨⟨v2, e2⟩, f2, hc⟩ := Option.bind_eq_some_iff.1 hc
    obtain ⟨rfl, rfl⟩ := Prod.mk.inj (Option.some.inj hc)
    obtain ⟨c, hcb, c1⟩ := lv d _ v1 e1 hd hd3 s1 (by omega) f1
    obtain ⟨b, hbb, c2⟩ := lv _ _ v2 e2 htn.1 htn.2 s2 (by omega) f2
    simp only [List.length_cons, List.length_append] at h1 h2 h3
    have hdt : impl_DirTurn.f ((wayOf ((i + 1 : Nat) : Int) l).kd a) d = some (dirTurn ((wayOf ((i + 1 : Nat) : Int) l).kd a) d) := by
      unfold impl_DirTurn.f
      rw [if_pos ⟨hd, by omega⟩]
    rw [show K + (2 * ((⟨a, d, w⟩ : TV) :: ((v1, e1).1 ++ (v2, e2).1)).length + 1) = ((K + (2 * v2.length + 1)) + (2 * v1.length + 1)) + 1 from by simp only [List.length_cons, List.length_append]; omega,
      pop_in _ stk a d w _ l V E (by omega) (by omega) (by omega) (by omega) ha hal ((wayOf ((i + 1 : Nat) : Int) l).kd a) rfl _ hsp _ hdt b c hbb hcb]
    rw [c1 _ _ _ _ (by simp only [List.length_append, List.length_cons, List.length_nil]; omega) (by simp only [List.length_append, List.length_cons, List.length_nil]; omega) (by simp only [List.length_append]; omega), c2 _ _ _ _ (by omega) (by simp only [List.length_append, List.length_cons, List.length_nil]; omega) (by simp only [List.length_append]; omega)]
    simp only [List.append_assoc, List.cons_append, List.nil_append]
theorem trailOf_some {a : Int} (ha : 0 ≤ a) (has : a < (sN i j : Int)) (k : Nat) (hk : 30000 ≤ k) : impl_trailOf.f k ((i + 1 : Nat) : Int) l a = some (trailP ((i + 1 : Nat) : Int) l a) := by
  obtain ⟨e, h1, h2⟩ := trailP_of hi hj h ha has
  generalize trailP ((i + 1 : Nat) : Int) l a = r at e h1 h2 ⊢
  obtain ⟨vs, es⟩ := r
  replace h1 : vs.length ≤ 12700 := h1
  replace h2 : es.length ≤ 64 := h2
  have hm := okG_25 hi hj h
  have hsi := sights_ij i j hi hj
  rw [← h.1] at hsi
  obtain ⟨⟨x0, x1, x2, x3⟩, _⟩ := sight_in hi hj h ha has
  unfold impl_trailOf.f
  rw [impl_SightRay_some _ l a (by omega) k (by omega)]
  simp only [Option.bind_some]
  have hr : sightRay ((i + 1 : Nat) : Int) l a = ((sightAt ((i + 1 : Nat) : Int) l.length a).1, (sightAt ((i + 1 : Nat) : Int) l.length a).2, true) := by
    unfold sightRay
    rw [if_pos ⟨okG_grid hi hj h, ha, by omega⟩]
  rw [hr, if_pos rfl]
  obtain ⟨k, rfl⟩ : ∃ m, k = (m + 1) + (2 * vs.length + 1) := ⟨k - 1 - (2 * vs.length + 1), by omega⟩
  have := run_trail hi hj h 1000 _ _ 64 _ _ x0 x1 x2 x3 (by decide) (by decide) e (k + 1) [] [] [] (by simp only [List.length_nil]; omega) (by simp only [List.length_nil]; omega) (by simp only [List.length_nil]; omega)
  simp only [List.nil_append] at this
  rw [this]
  simp [impl_trailOf.l0]
end
theorem impl_trailOf_some (n : Int) (l : List S57) (a : Int) (hl : l.length ≤ 1099511627776) (k : Nat) (hk : l.length + 30000 ≤ k) : impl_trailOf.f k n l a = some (trailP n l a) := by
  by_cases h : gridOkB n l = true ∧ 0 ≤ a ∧ a < sights n l.length
  · obtain ⟨hg, h0, h1⟩ := h
    obtain ⟨i, j, hi, hj, rfl, ho⟩ := okG_of hg
    have hsi := sights_ij i j hi hj
    rw [← ho.1] at hsi
    exact trailOf_some hi hj ho h0 (by omega) k (by omega)
  · rw [trailP_no h]
    unfold impl_trailOf.f
    rw [impl_SightRay_some n l a hl k (by omega)]
    simp only [Option.bind_some]
    have hr : sightRay n l a = (0, 0, false) := by
      unfold sightRay
      rw [if_neg h]
    rw [hr, if_neg (by decide)]
end Go.Proofs.Ytmohfoleolmijaa.P
