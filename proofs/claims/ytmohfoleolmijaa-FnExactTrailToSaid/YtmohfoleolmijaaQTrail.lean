/- PROVED: how light goes by fuel; the way of light ends, since no light comes back to a place without being halved. Condition: the light comes in from outside. -/
import Derived.Test.YtmohfoleolmijaaT1End
namespace Go.Proofs.Ytmohfoleolmijaa.P
open Go.RowKit Go.Proofs.YtmohfoleolmijaaW.PrintWords Go.Proofs.YtmohfoleolmijaaW.PrintLast Go.Proofs.YtmohfoleolmijaaW.PrintMore
set_option linter.unusedVariables false
set_option linter.unusedSimpArgs false
/-- A grid as light sees it: the next cell, the sight at the edge, the kind of a cell, and what it makes of a direction. -/
structure Way where
  nx : Int → Int → Option Int
  so : Int → Int → Int
  kd : Int → Int
  tn : Int → Int → Int
/-- What passes, what is turned, what is lost, what stops. -/
structure Spread where
  pass : Int
  turn : Int
  lost : Int
  stop : Int
def spreadP (kind w : Int) : Spread :=
  if kind = 0 then ⟨w, 0, 0, 0⟩ else if kind = 1 ∨ kind = 7 then ⟨0, 0, 0, w⟩ else if kind = 2 ∨ kind = 3 then ⟨0, w, 0, 0⟩
  else if kind = 4 ∨ kind = 5 then ⟨Int.tdiv w 2, Int.tdiv w 2, w - Int.tdiv w 2 - Int.tdiv w 2, 0⟩ else ⟨Int.tdiv w 2, 0, w - Int.tdiv w 2, 0⟩
def leaveW (G : Way) (c : Int → Int → Int → Option (List TV × List TE)) (a d w : Int) : Option (List TV × List TE) :=
  if w = 0 then some ([], []) else match G.nx a d with
    | none => some ([], endL 0 (G.so a d) w)
    | some b => c b d w
def come (G : Way) : Nat → Int → Int → Int → Option (List TV × List TE)
  | 0, _, _, _ => none
  | k + 1, a, d, w =>
    (leaveW G (come G k) a d (spreadP (G.kd a) w).pass).bind fun p =>
    (leaveW G (come G k) a (G.tn (G.kd a) d) (spreadP (G.kd a) w).turn).bind fun q =>
    some (⟨a, d, w⟩ :: (p.1 ++ q.1), endL (stopK (G.kd a)) a (spreadP (G.kd a) w).stop ++ (endL 3 a (spreadP (G.kd a) w).lost ++ (p.2 ++ q.2)))
/-- What is true of a grid. -/
structure Way.Ok (G : Way) (m : Nat) : Prop where
  kin : ∀ a, 0 ≤ a → a < (m : Int) → 0 ≤ G.kd a ∧ G.kd a ≤ 7
  tin : ∀ k d, 0 ≤ d → d < 4 → 0 ≤ G.tn k d ∧ G.tn k d < 4
  tt : ∀ k d d', 0 ≤ d → d < 4 → 0 ≤ d' → d' < 4 → G.tn k d = G.tn k d' → d = d'
  t0 : ∀ k d, 0 ≤ d → d < 4 → ¬ (2 ≤ k ∧ k ≤ 5) → G.tn k d = d
  nin : ∀ a d b, 0 ≤ a → a < (m : Int) → 0 ≤ d → d < 4 → G.nx a d = some b → 0 ≤ b ∧ b < (m : Int)
  back : ∀ a d b, 0 ≤ a → a < (m : Int) → 0 ≤ d → d < 4 → G.nx a d = some b → G.nx b ((d + 2) % 4) = some a
/-- A place and a direction. -/
def inW (m : Nat) (s : Int × Int) : Prop := 0 ≤ s.1 ∧ s.1 < (m : Int) ∧ 0 ≤ s.2 ∧ s.2 < 4
/-- The next state of light where nothing splits, stops or dims it. -/
def plain (G : Way) (s : Int × Int) : Prop := G.kd s.1 = 0 ∨ G.kd s.1 = 2 ∨ G.kd s.1 = 3
instance (G : Way) (s : Int × Int) : Decidable (plain G s) := inferInstanceAs (Decidable (_ ∨ _ ∨ _))
def stW (G : Way) (s : Int × Int) : Option (Int × Int) :=
  if plain G s then (G.nx s.1 (G.tn (G.kd s.1) s.2)).map fun b => (b, G.tn (G.kd s.1) s.2) else none
def chain (G : Way) (s : Int × Int) : Nat → Option (Int × Int)
  | 0 => some s
  | i + 1 => (chain G s i).bind (stW G)
/-- Light that comes from outside, or from a cell that halves it. -/
def fresh (G : Way) (s : Int × Int) : Prop := ∀ x, G.nx s.1 ((s.2 + 2) % 4) = some x → ¬ plain G (x, 0)
theorem plain_snd {G : Way} {a d d' : Int} (h : plain G (a, d)) : plain G (a, d') := h
theorem stW_in {G : Way} {m : Nat} (hG : G.Ok m) {s t : Int × Int} (hs : inW m s) (h : stW G s = some t) : inW m t ∧ plain G s ∧ G.nx t.1 ((t.2 + 2) % 4) = some s.1 ∧ t.2 = G.tn (G.kd s.1) s.2 := by
  unfold stW at h
  by_cases hp : plain G s
  · rw [if_pos hp] at h
    obtain ⟨b, hb, rfl⟩ := Option.map_eq_some_iff.1 h
    obtain ⟨h0, h1, h2, h3⟩ := hs
    obtain ⟨t0, t1⟩ := hG.tin (G.kd s.1) s.2 h2 h3
    obtain ⟨b0, b1⟩ := hG.nin _ _ b h0 h1 t0 t1 hb
    exact ⟨⟨b0, b1, t0, t1⟩, hp, hG.back _ _ b h0 h1 t0 t1 hb, rfl⟩
  · rw [if_neg hp] at h
    cases h
theorem stW_inj {G : Way} {m : Nat} (hG : G.Ok m) {s s' t : Int × Int} (hs : inW m s) (hs' : inW m s') (h : stW G s = some t) (h' : stW G s' = some t) : s = s' := by
  obtain ⟨_, p1, e1, f1⟩ := stW_in hG hs h
  obtain ⟨_, p2, e2, f2⟩ := stW_in hG hs' h'
  rw [e1] at e2
  have e : s.1 = s'.1 := Option.some.inj e2
  rw [f1, e] at f2
  exact Prod.ext e (hG.tt _ _ _ hs.2.2.1 hs.2.2.2 hs'.2.2.1 hs'.2.2.2 f2)
theorem chain_in {G : Way} {m : Nat} (hG : G.Ok m) {s : Int × Int} (hs : inW m s) : ∀ i t, chain G s i = some t → inW m t
  | 0, t, h => by
    obtain rfl := Option.some.inj h
    exact hs
  | i + 1, t, h => by
    obtain ⟨u, hu, h⟩ := Option.bind_eq_some_iff.1 h
    exact (stW_in hG (chain_in hG hs i u hu) h).1
theorem chain_le {G : Way} {s : Int × Int} : ∀ {i j : Nat}, i ≤ j → (chain G s j).isSome → (chain G s i).isSome
  | i, 0, h, hj => by
    obtain rfl : i = 0 := by omega
    exact hj
  | i, j + 1, h, hj => by
    by_cases e : i = j + 1
    · rw [e]
      exact hj
    · refine chain_le (j := j) (by omega) ?_
      cases h' : chain G s j with
      | none => rw [show chain G s (j + 1) = (chain G s j).bind (stW G) from rfl, h'] at hj; cases hj
      | some x => rfl
/-- No state of a chain that began fresh comes again. -/
theorem chain_new {G : Way} {m : Nat} (hG : G.Ok m) {s : Int × Int} (hs : inW m s) (hf : fresh G s) : ∀ (p q : Nat) (t : Int × Int), p < q → chain G s p = some t → chain G s q = some t → False
  | 0, q, t, hq, h0, h1 => by
    obtain rfl := Option.some.inj h0
    obtain ⟨q, rfl⟩ : ∃ r, q = r + 1 := ⟨q - 1, by omega⟩
    obtain ⟨u, hu, h⟩ := Option.bind_eq_some_iff.1 h1
    obtain ⟨_, hp, e, _⟩ := stW_in hG (chain_in hG hs q u hu) h
    exact hf _ e (plain_snd (d' := 0) (show plain G (u.1, u.2) from hp))
  | p + 1, q, t, hq, h0, h1 => by
    obtain ⟨q, rfl⟩ : ∃ r, q = r + 1 := ⟨q - 1, by omega⟩
    obtain ⟨u, hu, h⟩ := Option.bind_eq_some_iff.1 h0
    obtain ⟨v, hv, h'⟩ := Option.bind_eq_some_iff.1 h1
    have := stW_inj hG (chain_in hG hs p u hu) (chain_in hG hs q v hv) h h'
    rw [← this] at hv
    exact chain_new hG hs hf p q u (by omega) hu hv
/-- Of more than N numbers below N two are the same. -/
theorem pigeon : ∀ (N : Nat) (g : Nat → Nat), (∀ i, i ≤ N → g i < N) → ∃ p q, p < q ∧ q ≤ N ∧ g p = g q
  | 0, g, h => absurd (h 0 (Nat.le_refl 0)) (by omega)
  | N + 1, g, h => by
    by_cases hx : ∃ p, p < N + 1 ∧ g p = g (N + 1)
    · obtain ⟨p, hp, e⟩ := hx
      exact ⟨p, N + 1, hp, Nat.le_refl _, e⟩
    · have hne : ∀ p, p < N + 1 → g p ≠ g (N + 1) := fun p hp e => hx ⟨p, hp, e⟩
      obtain ⟨p, q, h1, h2, h3⟩ := pigeon N (fun i => if g i < g (N + 1) then g i else g i - 1) (by
        intro i hi
        have a := h i (by omega)
        have b := h (N + 1) (Nat.le_refl _)
        have c := hne i (by omega)
        show (if g i < g (N + 1) then g i else g i - 1) < N
        by_cases x : g i < g (N + 1)
        · rw [if_pos x]; omega
        · rw [if_neg x]; omega)
      refine ⟨p, q, h1, by omega, ?_⟩
      have c1 := hne p (by omega)
      have c2 := hne q (by omega)
      replace h3 : (if g p < g (N + 1) then g p else g p - 1) = (if g q < g (N + 1) then g q else g q - 1) := h3
      by_cases x : g p < g (N + 1) <;> by_cases y : g q < g (N + 1)
      · rw [if_pos x, if_pos y] at h3; exact h3
      · rw [if_pos x, if_neg y] at h3; omega
      · rw [if_neg x, if_pos y] at h3; omega
      · rw [if_neg x, if_neg y] at h3; omega
/-- A chain ends. -/
theorem chain_ends {G : Way} {m : Nat} (hG : G.Ok m) {s : Int × Int} (hs : inW m s) (hf : fresh G s) : chain G s (4 * m) = none := by
  cases h : chain G s (4 * m) with
  | none => rfl
  | some t =>
    exfalso
    have hsome : ∀ i, i ≤ 4 * m → ∃ u, chain G s i = some u := fun i hi => Option.isSome_iff_exists.1 (chain_le hi (by rw [h]; rfl))
    obtain ⟨p, q, h1, h2, h3⟩ := pigeon (4 * m) (fun i => match chain G s i with | some u => (u.1 * 4 + u.2).toNat | none => 0) (by
      intro i hi
      obtain ⟨u, hu⟩ := hsome i hi
      obtain ⟨a, b, c, d⟩ := chain_in hG hs i u hu
      simp only [hu]
      omega)
    obtain ⟨u, hu⟩ := hsome p (by omega)
    obtain ⟨v, hv⟩ := hsome q h2
    simp only [hu, hv] at h3
    obtain ⟨a, b, c, d⟩ := chain_in hG hs p u hu
    obtain ⟨a', b', c', d'⟩ := chain_in hG hs q v hv
    have e : u = v := Prod.ext (by omega) (by omega)
    rw [← e] at hv
    exact chain_new hG hs hf p q u h1 hu hv
/-- A bound for what is done at a weight below 2^j. -/
def costT (m : Nat) : Nat → Nat
  | 0 => 0
  | j + 1 => 4 * m + 2 * costT m j
theorem halfT {w : Int} (h : 0 ≤ w) : 0 ≤ Int.tdiv w 2 ∧ Int.tdiv w 2 * 2 ≤ w ∧ w ≤ Int.tdiv w 2 * 2 + 1 := by
  rw [Int.tdiv_eq_ediv_of_nonneg h]
  omega
theorem spread_plain {k w : Int} (h : k = 0 ∨ k = 2 ∨ k = 3) : (spreadP k w = ⟨w, 0, 0, 0⟩ ∧ k = 0) ∨ (spreadP k w = ⟨0, w, 0, 0⟩ ∧ (k = 2 ∨ k = 3)) := by
  rcases h with rfl | rfl | rfl
  · exact .inl ⟨rfl, rfl⟩
  · exact .inr ⟨rfl, .inl rfl⟩
  · exact .inr ⟨rfl, .inr rfl⟩
/-- Light that goes on as a whole. -/
theorem come_plain {G : Way} {m : Nat} (hG : G.Ok m) (k : Nat) {a d w : Int} (hd : 0 ≤ d) (hd3 : d < 4) (hw : 0 < w) (hp : plain G (a, d)) :
    come G (k + 1) a d w = (leaveW G (come G k) a (G.tn (G.kd a) d) w).bind fun q => some (⟨a, d, w⟩ :: q.1, q.2) := by
  have e1 : endL (stopK (G.kd a)) a 0 = [] := rfl
  have e2 : endL 3 a 0 = [] := rfl
  have e3 : ∀ x, leaveW G (come G k) a x 0 = some ([], []) := fun x => if_pos rfl
  rcases spread_plain (k := G.kd a) (w := w) hp with ⟨e, h0⟩ | ⟨e, _⟩
  · have ht : G.tn (G.kd a) d = d := hG.t0 _ d hd hd3 (by rw [h0]; omega)
    simp only [come, e, e1, e2, e3, Option.bind_some, ht, List.nil_append, List.append_nil]
  · simp only [come, e, e1, e2, e3, Option.bind_some, List.nil_append]
theorem fresh_next {G : Way} {m : Nat} (hG : G.Ok m) {a d d' b : Int} (ha : 0 ≤ a) (ham : a < (m : Int)) (hd : 0 ≤ d) (hd3 : d < 4) (hb : G.nx a d = some b) (hp : ¬ plain G (a, d')) : inW m (b, d) ∧ fresh G (b, d) := by
  obtain ⟨b0, b1⟩ := hG.nin a d b ha ham hd hd3 hb
  refine ⟨⟨b0, b1, hd, hd3⟩, ?_⟩
  intro x hx
  rw [show ((b, d) : Int × Int).1 = b from rfl, show ((b, d) : Int × Int).2 = d from rfl, hG.back a d b ha ham hd hd3 hb] at hx
  obtain rfl := Option.some.inj hx
  exact hp
/-- Light ends: with enough fuel there is an answer, and not too many visits. -/
theorem come_some {G : Way} {m : Nat} (hG : G.Ok m) : ∀ (j : Nat) (w : Int), 0 < w → w < 2 ^ j → ∀ (s : Int × Int), inW m s → fresh G s → ∀ k, (4 * m + 1) * j < k → ∃ vs es, come G k s.1 s.2 w = some (vs, es) ∧ vs.length ≤ costT m j
  | 0, w, h0, h1, s, hs, hf, k, hk => absurd h1 (by simp; omega)
  | j + 1, w, h0, h1, s, hs, hf, k, hk => by
    have ih := come_some hG j
    have e2 : (2 : Int) ^ (j + 1) = 2 * 2 ^ j := by rw [Int.pow_succ]; omega
    rw [e2] at h1
    generalize (2 : Int) ^ j = P at h1 ih
    have main : ∀ (r i : Nat) (t : Int × Int), i + r = 4 * m → chain G s i = some t → ∀ k, r + (4 * m + 1) * j < k → ∃ vs es, come G k t.1 t.2 w = some (vs, es) ∧ vs.length ≤ r + 2 * costT m j := by
      intro r
      induction r with
      | zero =>
        intro i t hi ht
        rw [show i = 4 * m by omega, chain_ends hG hs hf] at ht
        cases ht
      | succ r ihr =>
        intro i t hi ht k hk
        obtain ⟨k, rfl⟩ : ∃ q, k = q + 1 := ⟨k - 1, by omega⟩
        obtain ⟨h2, h3, h4, h5⟩ := chain_in hG hs i t ht
        obtain ⟨a, d⟩ := t
        simp only at h2 h3 h4 h5 ⊢
        by_cases hp : plain G (a, d)
        · rw [come_plain hG k h4 h5 h0 hp]
          unfold leaveW
          rw [if_neg (by omega)]
          cases hb : G.nx a (G.tn (G.kd a) d) with
          | none => exact ⟨_, _, rfl, by simp; omega⟩
          | some b =>
            have hst : chain G s (i + 1) = some (b, G.tn (G.kd a) d) := by
              show (chain G s i).bind (stW G) = _
              rw [ht]
              show stW G (a, d) = _
              unfold stW
              rw [if_pos hp]
              show (G.nx a (G.tn (G.kd a) d)).map _ = _
              rw [hb]
              rfl
            obtain ⟨vs, es, e, hl⟩ := ihr (i + 1) _ (by omega) hst k (by omega)
            simp only at e ⊢
            rw [e]
            exact ⟨_, _, rfl, by simp; omega⟩
        · have half : ∀ d' w', 0 ≤ d' → d' < 4 → 0 ≤ w' → w' < P → ∃ vs es, leaveW G (come G k) a d' w' = some (vs, es) ∧ vs.length ≤ costT m j := by
            intro d' w' hd hd3 hw hw3
            unfold leaveW
            by_cases hz : w' = 0
            · rw [if_pos hz]
              exact ⟨_, _, rfl, by simp⟩
            · rw [if_neg hz]
              cases hb : G.nx a d' with
              | none => exact ⟨_, _, rfl, by simp⟩
              | some b =>
                obtain ⟨q1, q2⟩ := fresh_next hG h2 h3 hd hd3 hb hp
                exact ih w' (by omega) hw3 (b, d') q1 q2 k (by omega)
          obtain ⟨t0, t1⟩ := hG.tin (G.kd a) d h4 h5
          obtain ⟨x0, x1, x2⟩ := halfT (Int.le_of_lt h0)
          have hsp : (0 ≤ (spreadP (G.kd a) w).pass ∧ (spreadP (G.kd a) w).pass < P) ∧ (0 ≤ (spreadP (G.kd a) w).turn ∧ (spreadP (G.kd a) w).turn < P) := by
            have hp' : ¬ (G.kd a = 0 ∨ G.kd a = 2 ∨ G.kd a = 3) := hp
            unfold spreadP
            rw [if_neg (fun x => hp' (.inl x))]
            by_cases c1 : G.kd a = 1 ∨ G.kd a = 7
            · rw [if_pos c1]
              simp only
              omega
            · rw [if_neg c1, if_neg (fun x => hp' (.inr x))]
              by_cases c2 : G.kd a = 4 ∨ G.kd a = 5
              · rw [if_pos c2]
                simp only
                omega
              · rw [if_neg c2]
                simp only
                omega
          obtain ⟨v1, s1, f1, l1⟩ := half d _ h4 h5 hsp.1.1 hsp.1.2
          obtain ⟨v2, s2, f2, l2⟩ := half _ _ t0 t1 hsp.2.1 hsp.2.2
          simp only [come, f1, f2, Option.bind_some]
          exact ⟨_, _, rfl, by simp; omega⟩
    have hk' : 4 * m + (4 * m + 1) * j < k := by
      have : (4 * m + 1) * (j + 1) = (4 * m + 1) * j + (4 * m + 1) := Nat.mul_succ _ _
      omega
    obtain ⟨vs, es, e, hl⟩ := main (4 * m) 0 s (by omega) rfl k hk'
    exact ⟨vs, es, e, by simpa [costT] using hl⟩
/-- What ends is what came. -/
def sumW : List TE → Int
  | [] => 0
  | e :: l => e.f2 + sumW l
theorem sumW_append (x y : List TE) : sumW (x ++ y) = sumW x + sumW y := by
  induction x with
  | nil => simp [sumW]
  | cons e l ih => simp [sumW, ih]; omega
theorem spread_sum {k w : Int} (hw : 0 ≤ w) : (spreadP k w).pass + (spreadP k w).turn + (spreadP k w).lost + (spreadP k w).stop = w ∧ 0 ≤ (spreadP k w).pass ∧ 0 ≤ (spreadP k w).turn ∧ 0 ≤ (spreadP k w).lost ∧ 0 ≤ (spreadP k w).stop ∧ (spreadP k w).pass ≤ w ∧ (spreadP k w).turn ≤ w := by
  obtain ⟨x0, x1, x2⟩ := halfT hw
  unfold spreadP
  repeat' split
  all_goals (simp only; omega)
theorem sumW_endL (k a w : Int) (hw : 0 ≤ w) : sumW (endL k a w) = w := by
  unfold endL
  split
  · simp [sumW]
  · simp [sumW]; omega
theorem endL_pos (k a w : Int) : ∀ e ∈ endL k a w, 1 ≤ e.f2 := by
  unfold endL
  split
  · intro e he
    obtain rfl := List.mem_singleton.1 he
    show (1 : Int) ≤ w
    omega
  · intro e he
    cases he
theorem come_sum {G : Way} : ∀ (k : Nat) (a d w : Int) (vs : List TV) (es : List TE), 0 ≤ w → come G k a d w = some (vs, es) → sumW es = w ∧ (∀ e ∈ es, 1 ≤ e.f2)
  | 0, a, d, w, vs, es, hw, h => by cases h
  | k + 1, a, d, w, vs, es, hw, h => by
    obtain ⟨hs, hp, ht, hl, hq, _, _⟩ := spread_sum (k := G.kd a) hw
    have ih := come_sum (G := G) k
    have lv : ∀ d' w' v s, 0 ≤ w' → leaveW G (come G k) a d' w' = some (v, s) → sumW s = w' ∧ (∀ e ∈ s, 1 ≤ e.f2) := by
      intro d' w' v s hw' hx
      unfold leaveW at hx
      by_cases hz : w' = 0
      · rw [if_pos hz] at hx
        obtain ⟨rfl, rfl⟩ := Prod.mk.inj (Option.some.inj hx)
        exact ⟨by rw [hz]; rfl, fun e he => by cases he⟩
      · rw [if_neg hz] at hx
        cases hb : G.nx a d' with
        | none =>
          rw [hb] at hx
          obtain ⟨rfl, rfl⟩ := Prod.mk.inj (Option.some.inj hx)
          exact ⟨sumW_endL _ _ _ hw', endL_pos _ _ _⟩
        | some b =>
          rw [hb] at hx
          exact ih b d' w' v s hw' hx
    simp only [come] at h
    obtain ⟨⟨v1, s1⟩, f1, h⟩ := Option.bind_eq_some_iff.1 h
    obtain ⟨⟨v2, s2⟩, f2, h⟩ := Option.bind_eq_some_iff.1 h
    obtain ⟨rfl, rfl⟩ := Prod.mk.inj (Option.some.inj h)
    obtain ⟨a1, b1⟩ := lv _ _ _ _ hp f1
    obtain ⟨a2, b2⟩ := lv _ _ _ _ ht f2
    constructor
    · simp only [sumW_append, sumW_endL _ _ _ hl, sumW_endL _ _ _ hq, a1, a2]
      omega
    · intro e he
      simp only [List.mem_append] at he
      rcases he with he | he | he | he
      · exact endL_pos _ _ _ e he
      · exact endL_pos _ _ _ e he
      · exact b1 e he
      · exact b2 e he
theorem sumW_len : ∀ (es : List TE), (∀ e ∈ es, 1 ≤ e.f2) → (es.length : Int) ≤ sumW es
  | [], _ => by simp [sumW]
  | e :: l, h => by
    have h1 := h e (by simp)
    have h2 := sumW_len l (fun x hx => h x (by simp [hx]))
    simp only [List.length_cons, sumW]
    omega
end Go.Proofs.Ytmohfoleolmijaa.P
