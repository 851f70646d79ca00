/- PROVED: the 'end' methods of the program's trail and the reference's walk append an end, unless its weight is 0. Condition: at most 100000 ends so far. -/
import Derived.Test.YteapnipnoadejaaPx0
import Derived.Test.YteapnipnoadejaaH0Fn
namespace Go.Proofs.Yteapnipnoadejaa.P
open Go.RowKit Go.Proofs.YteapnipnoadejaaW
set_option linter.unusedVariables false
set_option linter.unusedSimpArgs false
abbrev TV := S34
abbrev TE := S38
def stopK (kind : Int) : Int := if kind = 7 then 2 else 1
theorem stop_cases (f : Int) : (stopK f = 2 ∧ (f == 7) = true) ∨ (stopK f = 1 ∧ (f == 7) = false) := by
 unfold stopK
 by_cases h : f = 7
 ·exact .inl ⟨if_pos h, beq_iff_eq.mpr h⟩
 ·exact .inr ⟨if_neg h, beq_eq_false_iff_ne.mpr h⟩
def endL (kind at_ w : Int) : List TE := if 0 < w then [⟨kind, at_, w⟩] else []
def Zx (w0 w : World) (pb : Nat) (n : Int) (A : Option Addr) (m c : Nat) (V : List TV) (E : List TE) : Prop :=
 ∃ vv ve, w.heap[pb]? = some (.cells #[.int .i64 n, .slice A m c, vv, ve] 58 (0, 0)) ∧ Kd.R k34 34 w w0.heap.size (fun _ => True) vv V ∧ Kd.R k38 38 w w0.heap.size (fun _ => True) ve E ∧ Below w0.heap.size w0 w ∧ w0.heap.size <= pb
theorem infoE : (Try.prog.info? 38).map (fun i => (i.zero, i.size, i.bytes)) = some (some (.agg #[.int .i64 0, .int .i64 0, .int .i64 0]), 3, 24) := by kernel_rfl
theorem infoV : (Try.prog.info? 34).map (fun i => (i.zero, i.size, i.bytes)) = some (some (.agg #[.int .i64 0, .int .i64 0, .int .i64 0]), 3, 24) := by kernel_rfl
theorem R_grown {α β : Type} {d : Kd α} {d' : Kd β} {e e' base base' : Nat} {ok ok' : Nat -> Prop} {w w1 : World} {v v' : Value} {xs : List α} {ys : List β} (h : d.R e w base ok v xs) (h' : d'.R e' w base' ok' v' ys) (hg : w.grownBy w1 v'.ownBlock) (ht : ∀ q, q ∈ e :: d.E -> q ≠ e') : d.R e w1 base ok v xs := by
 refine Kd.Wz (Kd.R_move (Kd.R_bound h) (fun k hk => hg.block k hk.2.2.1 ?_)) (fun _ hk => hk.1)
 intro he
 obtain ⟨inner, ho⟩ := Kd.R_own h'
 obtain ⟨cells, hc⟩ := own_typed ho k he.symm
 obtain ⟨_, _, _, q, hq, cells', hc'⟩ := hk
 rw [hc] at hc'
 injection hc' with hc'
 injection hc' with _ hc'
 exact ht q hq hc'.symm
theorem walk_store {w0 w : World} {pb : Nat} (hB : Below w0.heap.size w0 w) (hp : w0.heap.size <= pb) (j : Nat) (u : Value) : Below w0.heap.size w0 (w.setCell ⟨pb, j, none⟩ u) := Qm hB hp
theorem R_store {α : Type} {d : Kd α} {e base : Nat} {w : World} {v : Value} {xs : List α} (h : d.R e w base (fun _ => True) v xs) {g t : Nat} {cells : Array Value} (hb : w.heap[g]? = some (.cells cells t (0, 0))) (ht : ∀ q, q ∈ e :: d.E -> q ≠ t) (j : Nat) (u : Value) : d.R e (w.setCell ⟨g, j, none⟩ u) base (fun _ => True) v xs :=
 Kd.Wz (Kd.Zc (p := ⟨g, j, none⟩) (Kd.Zq h hb ht) (fun _ hk => hk.2) u) (fun _ _ => trivial)
set_option maxHeartbeats 4000000 in
set_option maxRecDepth 100000 in
theorem l11_end_yes (w0 w : World) (pb : Nat) (n : Int) (A : Option Addr) (m c : Nat) (V : List TV) (E : List TE) (k a x : Int) (hI : Zx w0 w pb n A m c V E) (hl : E.length <= 100000) (hx : 0 < x) :
  Calls Try.prog 68 #[.pointer (some ⟨pb, 0, none⟩), .int .i64 k, .int .i64 a, .int .i64 x] w fun e w' => e = .returned (.tuple #[]) ∧ Zx w0 w' pb n A m c V (E ++ [⟨k, a, x⟩]) := by
 obtain ⟨vv, ve, hb, hV, hE, hB, hp⟩ := hI
 obtain ⟨Ae, ce, rfl⟩ := Kd.Zk hE
 have BK := Qa.mk hb
 have HV := Qa.mk hV
 have HE := Qa.mk hE
 have HB := Qa.mk hB
 have HP := Qa.mk hp
 have HL := Qa.mk hl
 have hc0 : w.cell? ⟨pb, 3, none⟩ = some (.slice Ae E.length ce) := (Qe hb 3).trans rfl
 have hf0 := Qf hb 3
 have hx0 : decide (0 < x) = true := decide_eq_true hx
 clear hb hV hE hB hp hl
 go_enter Try.func68, Try.ntmps68
 go_wp2_with ((with_reducible refine Zz (b := .append) (xs := #[.tmp 14, .tmp 19]) rfl ?_); at_builtin; refine Kd.Xd k38 (w0 := w0) w0.heap.size rfl (.tmp 14) (.tmp 19) 35 38 (.agg #[.int .i64 0, .int .i64 0, .int .i64 0]) 24 rfl Try.underlying35 infoE rfl (by decide) (by omega) (.slice Ae E.length ce) E (⟨k, a, x⟩ : TE) [.int .i64 k, .int .i64 a, .int .i64 x] (fun _ => True) (fun _ => False) rfl rfl ?aP (fun _ hk => hk.elim) ?aF ?aO ?aB ?aS ?aL ?_; (case aP => exact k38_mkM _ _ _ (⟨k, a, x⟩ : TE)); (case aF => exact fun _ _ => trivial); (case aO => exact HE.out); (case aB => exact HB.out); (case aS => exact HB.out.size); (case aL => have := HL.out; omega); intro v1 w1 ho hb1 hg hat; obtain ⟨A1, c1, e1⟩ := Kd.Zk ho; subst e1; have BK1 := Qa.mk (Wu BK.out hg (Kd.R_ne HE.out BK.out (by decide))); have HV1 := Qa.mk (R_grown HV.out HE.out hg (by decide)); have HE1 := Qa.mk ho; have HB1 := Qa.mk hb1; clear ho hb1 hg hat; have hc1 : w1.cell? ⟨pb, 3, none⟩ = some (.slice Ae E.length ce) := (Qe BK1.out 3).trans rfl; have hf1 := Qf BK1.out 3)
 exact bodyPost_end (results_none Try.results68 _ _ _) rfl ⟨rfl, _, _, Wm BK1.out 3 _ (by simp), R_store HV1.out BK1.out (by decide) 3 _, R_store HE1.out BK1.out (by decide) 3 _, walk_store HB1.out HP.out 3 _, HP.out⟩
set_option maxRecDepth 100000 in
theorem l11_end_calls (w0 w : World) (pb : Nat) (n : Int) (A : Option Addr) (m c : Nat) (V : List TV) (E : List TE) (k a x : Int) (hI : Zx w0 w pb n A m c V E) (hl : E.length <= 100000) :
  Calls Try.prog 68 #[.pointer (some ⟨pb, 0, none⟩), .int .i64 k, .int .i64 a, .int .i64 x] w fun e w' => e = .returned (.tuple #[]) ∧ Zx w0 w' pb n A m c V (E ++ endL k a x) := by
 by_cases hx : 0 < x
 ·unfold endL
  rw [if_pos hx]
  exact l11_end_yes w0 w pb n A m c V E k a x hI hl hx
 ·have e : E ++ endL k a x = E := by
   unfold endL
   rw [if_neg hx, List.append_nil]
  rw [e]
  have hx0 : decide (0 < x) = false := decide_eq_false hx
  have HI := Qa.mk hI
  clear hI hx hl e
  go_enter Try.func68, Try.ntmps68
  go_wp2
  exact bodyPost_end (results_none Try.results68 _ _ _) rfl ⟨rfl, HI.out⟩
def TrailAt (w0 w : World) (pb : Nat) (V : List TV) (E : List TE) : Prop :=
 ∃ vv ve, w.heap[pb]? = some (.cells #[vv, ve] 55 (0, 0)) ∧ Kd.R k34 34 w w0.heap.size (fun _ => True) vv V ∧ Kd.R k38 38 w w0.heap.size (fun _ => True) ve E ∧ Below w0.heap.size w0 w ∧ w0.heap.size <= pb
def KeepT (w w' : World) (pb t : Nat) : Prop := w.heap.size <= w'.heap.size ∧ ∀ b, b < w.heap.size -> b ≠ pb -> (∀ cells, w.heap[b]? ≠ some (.cells cells t (0, 0))) -> w'.heap[b]? = w.heap[b]?
theorem KeepT.refl (w : World) (pb t : Nat) : KeepT w w pb t := ⟨Nat.le_refl _, fun _ _ _ _ => rfl⟩
theorem KeepT.blk {w w' : World} {pb t : Nat} (h : KeepT w w' pb t) {g q : Nat} {cells : Array Value} (hg : w.heap[g]? = some (.cells cells q (0, 0))) (hne : g ≠ pb) (hq : q ≠ t) : w'.heap[g]? = some (.cells cells q (0, 0)) :=
 (h.2 g (Wl hg) hne (fun c hc => by rw [hg] at hc; injection hc with hc; injection hc with _ hc; exact hq hc)).trans hg
theorem KeepT.row {w w' : World} {pb t : Nat} (h : KeepT w w' pb t) {α : Type} {d : Kd α} {e base : Nat} {v : Value} {xs : List α} (hr : d.R e w base (fun _ => True) v xs) {tp : Nat} {cells : Array Value} (hp : w.heap[pb]? = some (.cells cells tp (0, 0))) (h1 : ∀ q, q ∈ e :: d.E -> q ≠ tp) (h2 : ∀ q, q ∈ e :: d.E -> q ≠ t) : d.R e w' base (fun _ => True) v xs := by
 refine Kd.Wz (Kd.R_move (Kd.R_bound (Kd.Zq hr hp h1)) (fun k hk => ?_)) (fun _ _ => trivial)
 obtain ⟨⟨_, hk1⟩, _, hk2, q, hq, cells', hc'⟩ := hk
 exact h.2 k hk2 hk1 (fun c hc => by rw [hc'] at hc; injection hc with hc; injection hc with _ hc; exact h2 q hq hc)
theorem keepT_grown {α : Type} {d : Kd α} {e base : Nat} {ok : Nat -> Prop} {w w1 : World} {v : Value} {xs : List α} (hr : d.R e w base ok v xs) (hg : w.grownBy w1 v.ownBlock) (pb : Nat) : KeepT w w1 pb e :=
 ⟨hg.size, fun b hb _ hc => hg.block b hb (fun hb' => by
  obtain ⟨inner, ho⟩ := Kd.R_own hr
  obtain ⟨cells, hc'⟩ := own_typed ho b hb'.symm
  exact hc cells hc')⟩
theorem KeepT.set_ {w w1 : World} {pb t : Nat} (h : KeepT w w1 pb t) (j : Nat) (u : Value) : KeepT w (w1.setCell ⟨pb, j, none⟩ u) pb t :=
 ⟨by simpa [World.setCell] using h.1, fun b hb hne hc => (Below.heap_setCell w1 _ u b hne).trans (h.2 b hb hne hc)⟩
theorem KeepT.then_ {w w1 w2 : World} {pb t : Nat} (h : KeepT w w1 pb t) (k : KeepT w1 w2 pb t) : KeepT w w2 pb t :=
 ⟨Nat.le_trans h.1 k.1, fun b hb hne hc => by
  have e := h.2 b hb hne hc
  exact (k.2 b (Nat.lt_of_lt_of_le hb h.1) hne (by rw [e]; exact hc)).trans e⟩
theorem KeepT.below {w w1 : World} (h : Below w.heap.size w w1) (pb t : Nat) : KeepT w w1 pb t := ⟨h.size, fun b hb _ _ => h.block b hb⟩
set_option maxHeartbeats 4000000 in
set_option maxRecDepth 100000 in
theorem trail_end_yes (w0 w : World) (pb : Nat) (V : List TV) (E : List TE) (k a x : Int) (hI : TrailAt w0 w pb V E) (hl : E.length < 5864062014805) (hx : 0 < x) :
  Calls Try.prog 44 #[.pointer (some ⟨pb, 0, none⟩), .int .i64 k, .int .i64 a, .int .i64 x] w fun e w' => e = .returned (.tuple #[]) ∧ TrailAt w0 w' pb V (E ++ [⟨k, a, x⟩]) ∧ KeepT w w' pb 38 := by
 obtain ⟨vv, ve, hb, hV, hE, hB, hp⟩ := hI
 obtain ⟨Ae, ce, rfl⟩ := Kd.Zk hE
 have BK := Qa.mk hb
 have HV := Qa.mk hV
 have HE := Qa.mk hE
 have HB := Qa.mk hB
 have HP := Qa.mk hp
 have HL := Qa.mk hl
 have hc0 : w.cell? ⟨pb, 1, none⟩ = some (.slice Ae E.length ce) := (Qe hb 1).trans rfl
 have hf0 := Qf hb 1
 have hx0 : decide (0 < x) = true := decide_eq_true hx
 clear hb hV hE hB hp hl
 go_enter Try.func44, Try.ntmps44
 go_wp2_with ((with_reducible refine Zz (b := .append) (xs := #[.tmp 14, .tmp 19]) rfl ?_); at_builtin; refine Kd.Xd k38 (w0 := w0) w0.heap.size rfl (.tmp 14) (.tmp 19) 35 38 (.agg #[.int .i64 0, .int .i64 0, .int .i64 0]) 24 rfl Try.underlying35 infoE rfl (by decide) (by omega) (.slice Ae E.length ce) E (⟨k, a, x⟩ : TE) [.int .i64 k, .int .i64 a, .int .i64 x] (fun _ => True) (fun _ => False) rfl rfl ?aP (fun _ hk => hk.elim) ?aF ?aO ?aB ?aS ?aL ?_; (case aP => exact k38_mkM _ _ _ (⟨k, a, x⟩ : TE)); (case aF => exact fun _ _ => trivial); (case aO => exact HE.out); (case aB => exact HB.out); (case aS => exact HB.out.size); (case aL => have := HL.out; omega); intro v1 w1 ho hb1 hg hat; obtain ⟨A1, c1, e1⟩ := Kd.Zk ho; subst e1; have BK1 := Qa.mk (Wu BK.out hg (Kd.R_ne HE.out BK.out (by decide))); have HV1 := Qa.mk (R_grown HV.out HE.out hg (by decide)); have HE1 := Qa.mk ho; have HB1 := Qa.mk hb1; have HG1 := Qa.mk (keepT_grown HE.out hg pb); clear ho hb1 hg hat; have hc1 : w1.cell? ⟨pb, 1, none⟩ = some (.slice Ae E.length ce) := (Qe BK1.out 1).trans rfl; have hf1 := Qf BK1.out 1)
 exact bodyPost_end (results_none Try.results44 _ _ _) rfl ⟨rfl, ⟨_, _, Wm BK1.out 1 _ (by simp), R_store HV1.out BK1.out (by decide) 1 _, R_store HE1.out BK1.out (by decide) 1 _, walk_store HB1.out HP.out 1 _, HP.out⟩, KeepT.set_ HG1.out 1 _⟩
set_option maxRecDepth 100000 in
theorem trail_end_calls (w0 w : World) (pb : Nat) (V : List TV) (E : List TE) (k a x : Int) (hI : TrailAt w0 w pb V E) (hl : E.length < 5864062014805) :
  Calls Try.prog 44 #[.pointer (some ⟨pb, 0, none⟩), .int .i64 k, .int .i64 a, .int .i64 x] w fun e w' => e = .returned (.tuple #[]) ∧ TrailAt w0 w' pb V (E ++ endL k a x) ∧ KeepT w w' pb 38 := by
 by_cases hx : 0 < x
 ·unfold endL
  rw [if_pos hx]
  exact trail_end_yes w0 w pb V E k a x hI hl hx
 ·have e : E ++ endL k a x = E := by
   unfold endL
   rw [if_neg hx, List.append_nil]
  rw [e]
  have hx0 : decide (0 < x) = false := decide_eq_false hx
  have HI := Qa.mk hI
  clear hI hx hl e
  go_enter Try.func44, Try.ntmps44
  go_wp2
  exact bodyPost_end (results_none Try.results44 _ _ _) rfl ⟨rfl, HI.out, KeepT.refl _ _ _⟩
theorem cells_set_same {cs : Array Value} {j : Nat} {v : Value} (h : cs[j]? = some v) : cs.setIfInBounds j v = cs := by
 obtain ⟨hj, e⟩ := Array.getElem?_eq_some_iff.1 h
 refine Array.ext (by simp) ?_
 intro i h1 h2
 rw [Array.getElem_setIfInBounds h2]
 by_cases hi : j = i
 ·subst hi
  rw [if_pos rfl, e]
 ·rw [if_neg hi]
theorem modify_same {h : Array Obj} {g : Obj -> Obj} {p : Nat} (hp : ∀ o, h[p]? = some o -> g o = o) : h.modify p g = h := by
 refine Array.ext (by simp) ?_
 intro i h1 h2
 rw [Array.getElem_modify]
 by_cases e : p = i
 ·subst e
  rw [if_pos rfl, hp _ (Array.getElem?_eq_getElem h2)]
 ·rw [if_neg e]
theorem setCell_same {w : World} {pb j : Nat} {cs : Array Value} {t : TypeId} {v : Value} (hb : w.heap[pb]? = some (.cells cs t (0, 0))) (hj : cs[j]? = some v) : w.setCell ⟨pb, j, none⟩ v = w := by
 unfold World.setCell
 rw [modify_same]
 intro o ho
 rw [hb] at ho
 obtain rfl := Option.some.inj ho
 simp [cells_set_same hj]
set_option maxHeartbeats 4000000 in
set_option maxRecDepth 100000 in
theorem trail_endS.calls (w0 W : World) (pb : Nat) (vv ve : Value) (E : List TE) (k' k a x : Int) (hk : k' = k) (hb : W.heap[pb]? = some (.cells #[vv, ve] 55 (0, 0))) (hE : Kd.R k38 38 W w0.heap.size (fun _ => True) ve E) (hB : Below w0.heap.size w0 W) (hS : w0.heap.size <= W.heap.size) (hl : E.length < 5864062014805) :
  Calls Try.prog 44 #[.pointer (some ⟨pb, 0, none⟩), .int .i64 k, .int .i64 a, .int .i64 x] W fun e w' => ∃ v1 w1, e = .returned (.tuple #[]) ∧ w' = w1.setCell ⟨pb, 1, none⟩ v1 ∧ Kd.R k38 38 w1 w0.heap.size (fun _ => True) v1 (E ++ endL k' a x) ∧ Below w0.heap.size w0 w1 ∧ W.grownBy w1 ve.ownBlock ∧ (v1.ownBlock = ve.ownBlock ∨ ∃ b, v1.ownBlock = some b ∧ W.heap.size <= b) := by
 subst hk
 by_cases hx : 0 < x
 ·unfold endL
  rw [if_pos hx]
  obtain ⟨Ae, ce, rfl⟩ := Kd.Zk hE
  have BK := Qa.mk hb
  have HE := Qa.mk hE
  have HB := Qa.mk hB
  have HS := Qa.mk hS
  have HL := Qa.mk hl
  have hc0 : W.cell? ⟨pb, 1, none⟩ = some (.slice Ae E.length ce) := (Qe hb 1).trans rfl
  have hf0 := Qf hb 1
  have hx0 : decide (0 < x) = true := decide_eq_true hx
  clear hb hE hB hS hl hx
  go_enter Try.func44, Try.ntmps44
  go_wp2_with ((with_reducible refine Zz (b := .append) (xs := #[.tmp 14, .tmp 19]) rfl ?_); at_builtin; refine Kd.Xd k38 (w0 := w0) w0.heap.size rfl (.tmp 14) (.tmp 19) 35 38 (.agg #[.int .i64 0, .int .i64 0, .int .i64 0]) 24 rfl Try.underlying35 infoE rfl (by decide) (by omega) (.slice Ae E.length ce) E (⟨k', a, x⟩ : TE) [.int .i64 k', .int .i64 a, .int .i64 x] (fun _ => True) (fun _ => False) rfl rfl ?aP (fun _ hk => hk.elim) ?aF ?aO ?aB ?aS ?aL ?_; (case aP => exact k38_mkM _ _ _ (⟨k', a, x⟩ : TE)); (case aF => exact fun _ _ => trivial); (case aO => exact HE.out); (case aB => exact HB.out); (case aS => exact HB.out.size); (case aL => have := HL.out; omega); intro v1 w1 ho hb1 hg hat; obtain ⟨A1, c1, e1⟩ := Kd.Zk ho; subst e1; have BK1 := Qa.mk (Wu BK.out hg (Kd.R_ne HE.out BK.out (by decide))); have HE1 := Qa.mk ho; have HB1 := Qa.mk hb1; have HG1 := Qa.mk hg; have HAT := Qa.mk hat; clear ho hb1 hg hat; have hc1 : w1.cell? ⟨pb, 1, none⟩ = some (.slice Ae E.length ce) := (Qe BK1.out 1).trans rfl; have hf1 := Qf BK1.out 1)
  exact bodyPost_end (results_none Try.results44 _ _ _) rfl ⟨_, w1, rfl, by simp, HE1.out, HB1.out, HG1.out, HAT.out⟩
 ·have e : E ++ endL k' a x = E := by
   unfold endL
   rw [if_neg hx, List.append_nil]
  rw [e]
  have hx0 : decide (0 < x) = false := decide_eq_false hx
  have HQ := Qa.mk (show ∃ v1 w1, W = World.setCell w1 ⟨pb, 1, none⟩ v1 ∧ Kd.R k38 38 w1 w0.heap.size (fun _ => True) v1 E ∧ Below w0.heap.size w0 w1 ∧ W.grownBy w1 ve.ownBlock ∧ (v1.ownBlock = ve.ownBlock ∨ ∃ b, v1.ownBlock = some b ∧ W.heap.size <= b) from ⟨ve, W, (setCell_same hb rfl).symm, hE, hB, ⟨rfl, rfl, rfl, Nat.le_refl _, fun _ _ _ => rfl⟩, .inl rfl⟩)
  clear hb hE hB hS hx hl e
  go_enter Try.func44, Try.ntmps44
  go_wp2
  obtain ⟨v1, w1, q1, q2, q3, q4, q5⟩ := HQ.out
  exact bodyPost_end (results_none Try.results44 _ _ _) rfl ⟨v1, w1, rfl, q1, q2, q3, q4, q5⟩
end Go.Proofs.Yteapnipnoadejaa.P
