/- PROVED: the reference's walk of light: what leave, half and come append to the visits and the ends. Condition: at most 100000 visits and ends. -/
import Derived.Test.YteapnipnoadejaaPx23
import Derived.Test.YteapnipnoadejaaPx25
import Derived.Test.YteapnipnoadejaaPx26
import Derived.Test.YteapnipnoadejaaT1End
namespace Go.Proofs.Yteapnipnoadejaa.P
open Go.RowKit Go.Proofs.YteapnipnoadejaaW
set_option linter.unusedVariables false
set_option linter.unusedSimpArgs false
abbrev TR := Option (List TV × List TE)
def leaveC (k : Nat) (n : Int) (l : List S42) (c : Int -> Int -> Int -> TR) (a d x : Int) : TR :=
 (Wv.f k n l a d).bind fun r => if r.2.2 = true then c r.1 d x else (Yl.f k n l a d).bind fun s => some ([], endL 0 s x)
def halfC (k : Nat) (n : Int) (l : List S42) (c : Int -> Int -> Int -> TR) (a d x : Int) : TR :=
 if 0 < x then leaveC k n l c a d x else some ([], [])
def comeC (k : Nat) (n : Int) (l : List S42) : Nat -> Int -> Int -> Int -> TR
 | 0, _, _, _ => none
 | q + 1, a, d, x =>
  if x = 0 then some ([], []) else if 0 <= a then (if a < (l.length : Int) then
   (if (Qx l a).f0 = 1 then some ([⟨a, d, x⟩], endL 1 a x)
   else if (Qx l a).f0 = 7 then some ([⟨a, d, x⟩], endL 2 a x)
   else if (Qx l a).f0 = 6 then (halfC k n l (comeC k n l q) a d (wrap64 (Int.tdiv x 2))).bind fun p => some (⟨a, d, x⟩ :: p.1, endL 3 a (wrap64 (x - wrap64 (Int.tdiv x 2))) ++ p.2)
   else if (Qx l a).f0 = 4 ∨ (Qx l a).f0 = 5 then (halfC k n l (comeC k n l q) a d (wrap64 (Int.tdiv x 2))).bind fun p => (Zg.f k (Qx l a).f0 d).bind fun t => (halfC k n l (comeC k n l q) a t (wrap64 (Int.tdiv x 2))).bind fun r => some (⟨a, d, x⟩ :: (p.1 ++ r.1), endL 3 a (wrap64 (x - wrap64 (2 * wrap64 (Int.tdiv x 2)))) ++ (p.2 ++ r.2))
   else (Zg.f k (Qx l a).f0 d).bind fun t => (leaveC k n l (comeC k n l q) a t x).bind fun p => some (⟨a, d, x⟩ :: p.1, p.2)) else none) else none
theorem Zx.below {w0 w w1 : World} {pb : Nat} {n : Int} {A : Option Addr} {m c : Nat} {V : List TV} {E : List TE} (h : Zx w0 w pb n A m c V E) (hb : Below w.heap.size w w1) : Zx w0 w1 pb n A m c V E := by
 obtain ⟨vv, ve, h1, h2, h3, h4, h5⟩ := h
 exact ⟨vv, ve, Qk h1 hb, Kd.Ze h2 hb, Kd.Ze h3 hb, Below.trans h4 (hb.mono h4.size), h5⟩
theorem Zx.b {w0 w : World} {pb : Nat} {n : Int} {A : Option Addr} {m c : Nat} {V : List TV} {E : List TE} (h : Zx w0 w pb n A m c V E) : Below w0.heap.size w0 w := by
 obtain ⟨vv, ve, h1, h2, h3, h4, h5⟩ := h
 exact h4
theorem Zx.cells {w0 w : World} {pb : Nat} {n : Int} {A : Option Addr} {m c : Nat} {V : List TV} {E : List TE} (h : Zx w0 w pb n A m c V E) : w.cell? ⟨pb, 0, none⟩ = some (.int .i64 n) ∧ w.cell? ⟨pb, 1, none⟩ = some (.slice A m c) := by
 obtain ⟨vv, ve, h1, h2, h3, h4, h5⟩ := h
 exact ⟨(Qe h1 0).trans rfl, (Qe h1 1).trans rfl⟩
abbrev Walks (f : FuncId) (c : Int -> Int -> Int -> TR) (n : Int) (l : List S42) (A : Option Addr) (cp : Nat) : Prop :=
 ∀ (w0 w : World) (pb : Nat) (V : List TV) (E : List TE) (a d x : Int) (vs : List TV) (es : List TE), Kd.C k42 w0 A l.length l -> Zx w0 w pb n A l.length cp V E -> (V ++ vs).length <= 100000 -> (E ++ es).length <= 100000 -> c a d x = some (vs, es) →
  Calls Try.prog f #[.pointer (some ⟨pb, 0, none⟩), .int .i64 a, .int .i64 d, .int .i64 x] w fun e w' => e = .returned (.tuple #[]) ∧ Zx w0 w' pb n A l.length cp (V ++ vs) (E ++ es)
theorem Zx.lt {w0 w : World} {pb : Nat} {n : Int} {A : Option Addr} {m c : Nat} {V : List TV} {E : List TE} (h : Zx w0 w pb n A m c V E) : pb < w.heap.size := by
 obtain ⟨vv, ve, h1, h2, h3, h4, h5⟩ := h
 exact Wl h1
set_option maxRecDepth 100000 in
set_option maxHeartbeats 4000000 in
theorem leave_calls (k : Nat) (n : Int) (l : List S42) (A : Option Addr) (cp : Nat) (hl : l.length <= cp) (c : Int -> Int -> Int -> TR) (hcome : Walks 51 c n l A cp) : Walks 71 (leaveC k n l c) n l A cp := by
 intro w0 w pb V E a d x vs es hC hI hV hE h
 have huG := Try.underlying25
 have huR := Try.underlying44
 have HC := Qa.mk hC
 have HI := Qa.mk hI
 have HL := Qa.mk hl
 have HCOME := Qa.mk hcome
 clear hC hI hl hcome
 have hb0 := (Zx.cells HI.out).1
 have hb1 := (Zx.cells HI.out).2
 unfold leaveC at h
 obtain ⟨⟨b, d2, ok⟩, A1_, h⟩ := Option.bind_eq_some_iff.mp h
 have A1 := Qa.mk A1_
 clear A1_
 cases ok with
 | true =>
  replace h : c b d x = some (vs, es) := by simpa using h
  have H := Qa.mk h
  have HV := Qa.mk hV
  have HE := Qa.mk hE
  clear h hV hE
  go_enter Try.func71, Try.ntmps71
  go_wp2_with (first | (go_at_call 77; (with_reducible refine (Wv.calls k n A cp l a d b d2 true _ ?side1 ?side2 A1.out).mono ?_); (case side1 => exact Kd.Zi HC.out HI.out.b); (case side2 => exact HL.out); rintro e w1 ⟨rfl, hb⟩; have n0_ := Qa.mk (Zx.below HI.out hb); clear HI; have HI := n0_; clear n0_; clear hb; (try clear hb0); (try clear hb1); have hb0 := (Zx.cells HI.out).1; have hb1 := (Zx.cells HI.out).2) | ((with_reducible refine We (N := 8) rfl ?_); refine Qy ?hg (N := 8) ?hd (cs := #[.int .i64 0, .int .i64 0]) (t := 44) ?hr ?_; (case hd => rfl); (case hg => rfl); (case hr => first | (go_simp; done) | (go_simp; rfl)); intro gb hg w2 hbox hb; have BK := Qa.mk hbox; have hz0 : w2.cell? ⟨gb, 0, none⟩ = some (.int .i64 0) := (Qe hbox 0).trans rfl; have hz1 : w2.cell? ⟨gb, 1, none⟩ = some (.int .i64 0) := (Qe hbox 1).trans rfl; have hfz0 := Qf hbox 0; have hfz1 := Qf hbox 1; have NB := Qa.mk (show gb ≠ pb from hg ▸ Nat.ne_of_gt HI.out.lt); have NB1 := NB.out; have NB2 := NB.out.symm; have GE := Qa.mk (show _ <= gb from Nat.le_of_eq hg.symm); have HS := Qa.mk hb; clear hbox hb hg; have hb0' : w2.cell? ⟨pb, 0, none⟩ = some (.int .i64 n) := (Zx.cells (Zx.below HI.out HS.out)).1; have hb1' : w2.cell? ⟨pb, 1, none⟩ = some (.slice A l.length cp) := (Zx.cells (Zx.below HI.out HS.out)).2)  | (go_at_call 51; (with_reducible refine (HCOME.out w0 _ pb V E b d x vs es HC.out ?side1 HV.out HE.out H.out).mono ?_); (case side1 => exact Zx.below HI.out (by repeat (first | exact HS.out | refine Qm ?_ GE.out))); rintro e w3 ⟨rfl, hI3⟩; have HI3 := Qa.mk hI3; clear hI3))
  exact bodyPost_ret (results_none Try.results71 _ _ _) rfl ⟨rfl, HI3.out⟩
 | false =>
  replace h : ((Yl.f k n l a d).bind fun s => some (([] : List TV), endL 0 s x)) = some (vs, es) := by simpa using h
  obtain ⟨s, A2_, h⟩ := Option.bind_eq_some_iff.mp h
  have A2 := Qa.mk A2_
  clear A2_
  obtain ⟨rfl, rfl⟩ := Prod.mk.inj (Option.some.inj h)
  clear h
  have HE := Qa.mk hE
  clear hV hE
  go_enter Try.func71, Try.ntmps71
  go_wp2_with (first | (go_at_call 77; (with_reducible refine (Wv.calls k n A cp l a d b d2 false _ ?side1 ?side2 A1.out).mono ?_); (case side1 => exact Kd.Zi HC.out HI.out.b); (case side2 => exact HL.out); rintro e w1 ⟨rfl, hb⟩; have n0_ := Qa.mk (Zx.below HI.out hb); clear HI; have HI := n0_; clear n0_; clear hb; (try clear hb0); (try clear hb1); have hb0 := (Zx.cells HI.out).1; have hb1 := (Zx.cells HI.out).2) | ((with_reducible refine We (N := 8) rfl ?_); refine Qy ?hg (N := 8) ?hd (cs := #[.int .i64 0, .int .i64 0]) (t := 44) ?hr ?_; (case hd => rfl); (case hg => rfl); (case hr => first | (go_simp; done) | (go_simp; rfl)); intro gb hg w2 hbox hb; have BK := Qa.mk hbox; have hz0 : w2.cell? ⟨gb, 0, none⟩ = some (.int .i64 0) := (Qe hbox 0).trans rfl; have hz1 : w2.cell? ⟨gb, 1, none⟩ = some (.int .i64 0) := (Qe hbox 1).trans rfl; have hfz0 := Qf hbox 0; have hfz1 := Qf hbox 1; have NB := Qa.mk (show gb ≠ pb from hg ▸ Nat.ne_of_gt HI.out.lt); have NB1 := NB.out; have NB2 := NB.out.symm; have GE := Qa.mk (show _ <= gb from Nat.le_of_eq hg.symm); have HS := Qa.mk hb; clear hbox hb hg; have hb0' : w2.cell? ⟨pb, 0, none⟩ = some (.int .i64 n) := (Zx.cells (Zx.below HI.out HS.out)).1; have hb1' : w2.cell? ⟨pb, 1, none⟩ = some (.slice A l.length cp) := (Zx.cells (Zx.below HI.out HS.out)).2) | (go_at_call 78; (with_reducible refine (Yl.calls k n A cp l a d s _ ?side1 ?side2 A2.out).mono ?_); (case side1 => exact Kd.Zi HC.out (Zx.below HI.out (by repeat (first | exact HS.out | refine Qm ?_ GE.out))).b); (case side2 => exact HL.out); rintro e w3 ⟨rfl, hb⟩; have n0_ := Qa.mk (Zx.below (Zx.below HI.out (by repeat (first | exact HS.out | refine Qm ?_ GE.out))) hb); clear hb; have HI3 := n0_; clear n0_) | (go_at_call 68; (with_reducible refine (l11_end_calls w0 _ pb n A l.length cp V E 0 s x HI3.out ?side1).mono ?_); (case side1 => have := HE.out; simp at this; omega); rintro e w4 ⟨rfl, hI4⟩; have HI4 := Qa.mk hI4; clear hI4))
  exact bodyPost_end (results_none Try.results71 _ _ _) rfl ⟨rfl, by rw [List.append_nil]; exact HI4.out⟩
set_option maxRecDepth 100000 in
set_option maxHeartbeats 4000000 in
theorem half_calls (k : Nat) (n : Int) (l : List S42) (A : Option Addr) (cp : Nat) (hl : l.length <= cp) (c : Int -> Int -> Int -> TR) (hcome : Walks 51 c n l A cp) : Walks 69 (halfC k n l c) n l A cp := by
 intro w0 w pb V E a d x vs es hC hI hV hE h
 have hleave := Qa.mk (leave_calls k n l A cp hl c hcome)
 have HC := Qa.mk hC
 have HI := Qa.mk hI
 have HV := Qa.mk hV
 have HE := Qa.mk hE
 clear hC hI hl hcome hV hE
 unfold halfC at h
 by_cases hx : 0 < x
 ·rw [if_pos hx] at h
  have H := Qa.mk h
  have hx0 : decide (0 < x) = true := decide_eq_true hx
  clear h hx
  go_enter Try.func69, Try.ntmps69
  go_wp2_with ((go_at_call 71; (with_reducible refine (hleave.out w0 _ pb V E a d x vs es HC.out HI.out HV.out HE.out H.out).mono ?_); rintro e w3 ⟨rfl, hI3⟩; have HI3 := Qa.mk hI3; clear hI3))
  exact bodyPost_end (results_none Try.results69 _ _ _) rfl ⟨rfl, HI3.out⟩
 ·rw [if_neg hx] at h
  obtain ⟨rfl, rfl⟩ := Prod.mk.inj (Option.some.inj h)
  have hx0 : decide (0 < x) = false := decide_eq_false hx
  clear h hx
  go_enter Try.func69, Try.ntmps69
  go_wp2
  exact bodyPost_end (results_none Try.results69 _ _ _) rfl ⟨rfl, by rw [List.append_nil, List.append_nil]; exact HI.out⟩
set_option maxRecDepth 100000 in
set_option maxHeartbeats 4000000 in
theorem come_step (k : Nat) (n : Int) (l : List S42) (A : Option Addr) (cp : Nat) (hl : l.length <= cp) (q : Nat) (ih : Walks 51 (comeC k n l q) n l A cp) : Walks 51 (comeC k n l (q + 1)) n l A cp := by
 intro w0 w pb V E a d x vs es hC hI hV hE h
 have huG := Try.underlying25
 have huC := Try.underlying42
 have HHALF := Qa.mk (half_calls k n l A cp hl _ ih)
 have HLEAVE := Qa.mk (leave_calls k n l A cp hl _ ih)
 simp only [comeC] at h
 by_cases hx : x = 0
 ·rw [if_pos hx] at h
  obtain ⟨rfl, rfl⟩ := Prod.mk.inj (Option.some.inj h)
  have HI := Qa.mk hI
  have hx0 : (x == 0) = true := beq_iff_eq.mpr hx
  clear h hI hC hV hE ih
  go_enter Try.func51, Try.ntmps51
  go_wp2
  exact bodyPost_ret (results_none Try.results51 _ _ _) rfl ⟨rfl, by rw [List.append_nil, List.append_nil]; exact HI.out⟩
 rw [if_neg hx] at h
 have hx0 : (x == 0) = false := beq_eq_false_iff_ne.mpr hx
 by_cases h0 : 0 <= a
 ·rw [if_pos h0] at h
  by_cases h1 : a < (l.length : Int)
  ·rw [if_pos h1] at h
   have h0b : decide (0 <= a) = true := decide_eq_true h0
   have h1b : decide (a < (l.length : Int)) = true := decide_eq_true h1
   obtain ⟨ad, rfl, _, _⟩ := at_T42 hC a h0 h1
   have HAT : Qa (∀ w2 : World, Below w0.heap.size w0 w2 -> w2.cell? (ad.add (a.toNat * 2)) = some (.int .i64 (Qx l a).f0)) := ⟨fun w2 hb2 => by
    obtain ⟨ad2, e2, q1, _⟩ := at_T42 (Kd.Zi hC hb2) a h0 h1
    obtain rfl := Option.some.inj e2
    exact q1⟩
   have HC := Qa.mk hC
   have hab : 0 <= a ∧ a < (l.length : Int) := ⟨h0, h1⟩
   clear hC hl ih hx
   generalize (Qx l a).f0 = f at h HAT
   obtain ⟨vv, ve, hb, hV1, hE1, hB1, hP1⟩ := hI
   obtain ⟨Av, cv, rfl⟩ := Kd.Zk hV1
   have BK := Qa.mk hb
   have HVV := Qa.mk hV1
   have HEE := Qa.mk hE1
   have HB := Qa.mk hB1
   have HP := Qa.mk hP1
   have hc0 : w.cell? ⟨pb, 2, none⟩ = some (.slice Av V.length cv) := (Qe hb 2).trans rfl
   have hf0 := Qf hb 2
   clear hb hV1 hE1 hB1 hP1
   by_cases f1 : f = 1
   ·rw [if_pos f1] at h
    obtain ⟨rfl, rfl⟩ := Prod.mk.inj (Option.some.inj h)
    subst f1
    have HLV : Qa (V.length <= 100000) := ⟨by simp at hV; omega⟩
    have HLE : Qa (E.length <= 100000) := ⟨by simp at hE; omega⟩
    clear h hV hE
    go_enter Try.func51, Try.ntmps51
    go_wp2_with (first | ((with_reducible refine Zz (b := .append) (xs := #[.tmp 16, .tmp 21]) rfl ?_); at_builtin; refine Kd.Xd k34 (w0 := w0) w0.heap.size rfl (.tmp 16) (.tmp 21) 28 34 (.agg #[.int .i64 0, .int .i64 0, .int .i64 0]) 24 rfl Try.underlying28 infoV rfl (by decide) (by omega) (.slice Av V.length cv) V (⟨a, d, x⟩ : TV) [.int .i64 a, .int .i64 d, .int .i64 x] (fun _ => True) (fun _ => False) rfl rfl ?aP (fun _ hk => hk.elim) ?aF ?aO ?aB ?aS ?aL ?_; (case aP => exact k34_mkM _ _ _ (⟨a, d, x⟩ : TV)); (case aF => exact fun _ _ => trivial); (case aO => exact HVV.out); (case aB => exact HB.out); (case aS => exact HB.out.size); (case aL => have := HLV.out; omega); intro v1 w1 ho hb1_ hg hat; obtain ⟨A1_, c1_, e1⟩ := Kd.Zk ho; subst e1; have BK1 := Qa.mk (Wu BK.out hg (Kd.R_ne HVV.out BK.out (by decide))); have HE1 := Qa.mk (R_grown HEE.out HVV.out hg (by decide)); have HV1 := Qa.mk ho; have HB1 := Qa.mk hb1_; clear ho hb1_ hg hat; have hc1 : w1.cell? ⟨pb, 2, none⟩ = some (.slice Av V.length cv) := (Qe BK1.out 2).trans rfl; have hf1 := Qf BK1.out 2) | ((with_reducible refine gate_store (t := 28) (p := 24) rfl ?_); refine Xu (t := 28) (p := 24) (v := ?vo) (w1 := (w1.setCell ⟨pb, 2, none⟩ (.slice A1_ (V.length + 1) c1_))) ?hg ?ho ?hn ?hr ?_; (case ho => rfl); (case hg => rfl); (case hn => rfl); (case hr => first | (go_simp; done) | (go_simp; rfl)); intro w2 hw; clear hc1 hf1; have n0_ : Zx w0 w2 pb n (some ad) l.length cp (V ++ [⟨a, d, x⟩]) E := (by rw [hw]; exact ⟨_, _, Wm BK1.out 2 _ (by simp), R_store HV1.out BK1.out (by decide) 2 _, R_store HE1.out BK1.out (by decide) 2 _, walk_store HB1.out HP.out 2 _, HP.out⟩); clear hw; have HI := Qa.mk n0_; clear n0_; clear BK1 HV1 HE1 HB1; have hb0 := (Zx.cells HI.out).1; have hb1 := (Zx.cells HI.out).2; have hx2 := HAT.out w2 HI.out.b) | (go_at_call 68; (try simp only [Wp]); (with_reducible refine (l11_end_calls w0 _ pb n (some ad) l.length cp _ E 1 a (x) HI.out ?side1).mono ?_); (case side1 => have := HLE.out; omega); rintro e w4 ⟨rfl, hI4⟩; clear HI; have HI := Qa.mk hI4; clear hI4; (try clear hx2); (try clear hb0); (try clear hb1)))
    exact bodyPost_end (results_none Try.results51 _ _ _) rfl ⟨rfl, by have h_ := HI.out; simpa using h_⟩
   rw [if_neg f1] at h
   have f1b : (f == 1) = false := beq_eq_false_iff_ne.mpr f1
   by_cases f7 : f = 7
   ·rw [if_pos f7] at h
    obtain ⟨rfl, rfl⟩ := Prod.mk.inj (Option.some.inj h)
    subst f7
    have HLV : Qa (V.length <= 100000) := ⟨by simp at hV; omega⟩
    have HLE : Qa (E.length <= 100000) := ⟨by simp at hE; omega⟩
    clear h hV hE f1 f1b
    go_enter Try.func51, Try.ntmps51
    go_wp2_with (first | ((with_reducible refine Zz (b := .append) (xs := #[.tmp 16, .tmp 21]) rfl ?_); at_builtin; refine Kd.Xd k34 (w0 := w0) w0.heap.size rfl (.tmp 16) (.tmp 21) 28 34 (.agg #[.int .i64 0, .int .i64 0, .int .i64 0]) 24 rfl Try.underlying28 infoV rfl (by decide) (by omega) (.slice Av V.length cv) V (⟨a, d, x⟩ : TV) [.int .i64 a, .int .i64 d, .int .i64 x] (fun _ => True) (fun _ => False) rfl rfl ?aP (fun _ hk => hk.elim) ?aF ?aO ?aB ?aS ?aL ?_; (case aP => exact k34_mkM _ _ _ (⟨a, d, x⟩ : TV)); (case aF => exact fun _ _ => trivial); (case aO => exact HVV.out); (case aB => exact HB.out); (case aS => exact HB.out.size); (case aL => have := HLV.out; omega); intro v1 w1 ho hb1_ hg hat; obtain ⟨A1_, c1_, e1⟩ := Kd.Zk ho; subst e1; have BK1 := Qa.mk (Wu BK.out hg (Kd.R_ne HVV.out BK.out (by decide))); have HE1 := Qa.mk (R_grown HEE.out HVV.out hg (by decide)); have HV1 := Qa.mk ho; have HB1 := Qa.mk hb1_; clear ho hb1_ hg hat; have hc1 : w1.cell? ⟨pb, 2, none⟩ = some (.slice Av V.length cv) := (Qe BK1.out 2).trans rfl; have hf1 := Qf BK1.out 2) | ((with_reducible refine gate_store (t := 28) (p := 24) rfl ?_); refine Xu (t := 28) (p := 24) (v := ?vo) (w1 := (w1.setCell ⟨pb, 2, none⟩ (.slice A1_ (V.length + 1) c1_))) ?hg ?ho ?hn ?hr ?_; (case ho => rfl); (case hg => rfl); (case hn => rfl); (case hr => first | (go_simp; done) | (go_simp; rfl)); intro w2 hw; clear hc1 hf1; have n0_ : Zx w0 w2 pb n (some ad) l.length cp (V ++ [⟨a, d, x⟩]) E := (by rw [hw]; exact ⟨_, _, Wm BK1.out 2 _ (by simp), R_store HV1.out BK1.out (by decide) 2 _, R_store HE1.out BK1.out (by decide) 2 _, walk_store HB1.out HP.out 2 _, HP.out⟩); clear hw; have HI := Qa.mk n0_; clear n0_; clear BK1 HV1 HE1 HB1; have hb0 := (Zx.cells HI.out).1; have hb1 := (Zx.cells HI.out).2; have hx2 := HAT.out w2 HI.out.b) | (go_at_call 68; (try simp only [Wp]); (with_reducible refine (l11_end_calls w0 _ pb n (some ad) l.length cp _ E 2 a (x) HI.out ?side1).mono ?_); (case side1 => have := HLE.out; omega); rintro e w4 ⟨rfl, hI4⟩; clear HI; have HI := Qa.mk hI4; clear hI4; (try clear hx2); (try clear hb0); (try clear hb1)))
    exact bodyPost_end (results_none Try.results51 _ _ _) rfl ⟨rfl, by have h_ := HI.out; simpa using h_⟩
   rw [if_neg f7] at h
   have f7b : (f == 7) = false := beq_eq_false_iff_ne.mpr f7
   by_cases f6 : f = 6
   ·rw [if_pos f6] at h
    obtain ⟨⟨v1, s1⟩, A1_, h⟩ := Option.bind_eq_some_iff.mp h
    obtain ⟨rfl, rfl⟩ := Prod.mk.inj (Option.some.inj h)
    subst f6
    have HA := Qa.mk A1_
    have HLV : Qa (V.length + 1 + v1.length <= 100000) := ⟨by simp at hV; omega⟩
    have HLE : Qa (E.length + (endL 3 a (wrap64 (x - wrap64 (Int.tdiv x 2)))).length + s1.length <= 100000) := ⟨by simp at hE; omega⟩
    clear h hV hE f1 f1b f7 f7b A1_
    go_enter Try.func51, Try.ntmps51
    go_wp2_with (first | ((with_reducible refine Zz (b := .append) (xs := #[.tmp 16, .tmp 21]) rfl ?_); at_builtin; refine Kd.Xd k34 (w0 := w0) w0.heap.size rfl (.tmp 16) (.tmp 21) 28 34 (.agg #[.int .i64 0, .int .i64 0, .int .i64 0]) 24 rfl Try.underlying28 infoV rfl (by decide) (by omega) (.slice Av V.length cv) V (⟨a, d, x⟩ : TV) [.int .i64 a, .int .i64 d, .int .i64 x] (fun _ => True) (fun _ => False) rfl rfl ?aP (fun _ hk => hk.elim) ?aF ?aO ?aB ?aS ?aL ?_; (case aP => exact k34_mkM _ _ _ (⟨a, d, x⟩ : TV)); (case aF => exact fun _ _ => trivial); (case aO => exact HVV.out); (case aB => exact HB.out); (case aS => exact HB.out.size); (case aL => have := HLV.out; omega); intro v1 w1 ho hb1_ hg hat; obtain ⟨A1_, c1_, e1⟩ := Kd.Zk ho; subst e1; have BK1 := Qa.mk (Wu BK.out hg (Kd.R_ne HVV.out BK.out (by decide))); have HE1 := Qa.mk (R_grown HEE.out HVV.out hg (by decide)); have HV1 := Qa.mk ho; have HB1 := Qa.mk hb1_; clear ho hb1_ hg hat; have hc1 : w1.cell? ⟨pb, 2, none⟩ = some (.slice Av V.length cv) := (Qe BK1.out 2).trans rfl; have hf1 := Qf BK1.out 2) | ((with_reducible refine gate_store (t := 28) (p := 24) rfl ?_); refine Xu (t := 28) (p := 24) (v := ?vo) (w1 := (w1.setCell ⟨pb, 2, none⟩ (.slice A1_ (V.length + 1) c1_))) ?hg ?ho ?hn ?hr ?_; (case ho => rfl); (case hg => rfl); (case hn => rfl); (case hr => first | (go_simp; done) | (go_simp; rfl)); intro w2 hw; clear hc1 hf1; have n0_ : Zx w0 w2 pb n (some ad) l.length cp (V ++ [⟨a, d, x⟩]) E := (by rw [hw]; exact ⟨_, _, Wm BK1.out 2 _ (by simp), R_store HV1.out BK1.out (by decide) 2 _, R_store HE1.out BK1.out (by decide) 2 _, walk_store HB1.out HP.out 2 _, HP.out⟩); clear hw; have HI := Qa.mk n0_; clear n0_; clear BK1 HV1 HE1 HB1; have hb0 := (Zx.cells HI.out).1; have hb1 := (Zx.cells HI.out).2; have hx2 := HAT.out w2 HI.out.b) | (go_at_call 68; (try simp only [Wp]); (with_reducible refine (l11_end_calls w0 _ pb n (some ad) l.length cp _ E 3 a (wrap64 (x - wrap64 (Int.tdiv x 2))) HI.out ?side1).mono ?_); (case side1 => have := HLE.out; omega); rintro e w4 ⟨rfl, hI4⟩; clear HI; have HI := Qa.mk hI4; clear hI4; (try clear hx2); (try clear hb0); (try clear hb1)) | (go_at_call 69; (try simp only [Wp]); (with_reducible refine (HHALF.out w0 _ pb _ _ a d (wrap64 (Int.tdiv x 2)) v1 s1 HC.out HI.out ?side1 ?side2 HA.out).mono ?_); (case side1 => have := HLV.out; have := HLE.out; simp at *; omega); (case side2 => have := HLV.out; have := HLE.out; simp at *; omega); rintro e w5 ⟨rfl, hI5⟩; clear HI; have HI := Qa.mk hI5; clear hI5))
    exact bodyPost_end (results_none Try.results51 _ _ _) rfl ⟨rfl, by have h_ := HI.out; simpa using h_⟩
   rw [if_neg f6] at h
   have f6b : (f == 6) = false := beq_eq_false_iff_ne.mpr f6
   by_cases f45 : f = 4 ∨ f = 5
   ·rw [if_pos f45] at h
    obtain ⟨⟨v1, s1⟩, A1_, h⟩ := Option.bind_eq_some_iff.mp h
    obtain ⟨t, A2_, h⟩ := Option.bind_eq_some_iff.mp h
    obtain ⟨⟨v2, s2⟩, A3_, h⟩ := Option.bind_eq_some_iff.mp h
    obtain ⟨rfl, rfl⟩ := Prod.mk.inj (Option.some.inj h)
    by_cases f4 : f = 4
    ·have f4b : (f == 4) = true := beq_iff_eq.mpr f4
     have HA := Qa.mk A1_
     have AT := Qa.mk A2_
     have HA3 := Qa.mk A3_
     have HLV : Qa (V.length + 1 + v1.length + v2.length <= 100000) := ⟨by simp at hV; omega⟩
     have HLE : Qa (E.length + (endL 3 a (wrap64 (x - wrap64 (2 * wrap64 (Int.tdiv x 2))))).length + s1.length + s2.length <= 100000) := ⟨by simp at hE; omega⟩
     clear h hV hE f1 f7 f6 A1_ A2_ A3_
     clear f45 f4
     go_enter Try.func51, Try.ntmps51
     go_wp2_with (first | ((with_reducible refine Zz (b := .append) (xs := #[.tmp 16, .tmp 21]) rfl ?_); at_builtin; refine Kd.Xd k34 (w0 := w0) w0.heap.size rfl (.tmp 16) (.tmp 21) 28 34 (.agg #[.int .i64 0, .int .i64 0, .int .i64 0]) 24 rfl Try.underlying28 infoV rfl (by decide) (by omega) (.slice Av V.length cv) V (⟨a, d, x⟩ : TV) [.int .i64 a, .int .i64 d, .int .i64 x] (fun _ => True) (fun _ => False) rfl rfl ?aP (fun _ hk => hk.elim) ?aF ?aO ?aB ?aS ?aL ?_; (case aP => exact k34_mkM _ _ _ (⟨a, d, x⟩ : TV)); (case aF => exact fun _ _ => trivial); (case aO => exact HVV.out); (case aB => exact HB.out); (case aS => exact HB.out.size); (case aL => have := HLV.out; omega); intro v1 w1 ho hb1_ hg hat; obtain ⟨A1_, c1_, e1⟩ := Kd.Zk ho; subst e1; have BK1 := Qa.mk (Wu BK.out hg (Kd.R_ne HVV.out BK.out (by decide))); have HE1 := Qa.mk (R_grown HEE.out HVV.out hg (by decide)); have HV1 := Qa.mk ho; have HB1 := Qa.mk hb1_; clear ho hb1_ hg hat; have hc1 : w1.cell? ⟨pb, 2, none⟩ = some (.slice Av V.length cv) := (Qe BK1.out 2).trans rfl; have hf1 := Qf BK1.out 2) | ((with_reducible refine gate_store (t := 28) (p := 24) rfl ?_); refine Xu (t := 28) (p := 24) (v := ?vo) (w1 := (w1.setCell ⟨pb, 2, none⟩ (.slice A1_ (V.length + 1) c1_))) ?hg ?ho ?hn ?hr ?_; (case ho => rfl); (case hg => rfl); (case hn => rfl); (case hr => first | (go_simp; done) | (go_simp; rfl)); intro w2 hw; clear hc1 hf1; have n0_ : Zx w0 w2 pb n (some ad) l.length cp (V ++ [⟨a, d, x⟩]) E := (by rw [hw]; exact ⟨_, _, Wm BK1.out 2 _ (by simp), R_store HV1.out BK1.out (by decide) 2 _, R_store HE1.out BK1.out (by decide) 2 _, walk_store HB1.out HP.out 2 _, HP.out⟩); clear hw; have HI := Qa.mk n0_; clear n0_; clear BK1 HV1 HE1 HB1; have hb0 := (Zx.cells HI.out).1; have hb1 := (Zx.cells HI.out).2; have hx2 := HAT.out w2 HI.out.b) | (go_at_call 68; (try simp only [Wp]); (with_reducible refine (l11_end_calls w0 _ pb n (some ad) l.length cp _ E 3 a (wrap64 (x - wrap64 (2 * wrap64 (Int.tdiv x 2)))) HI.out ?side1).mono ?_); (case side1 => have := HLE.out; omega); rintro e w4 ⟨rfl, hI4⟩; clear HI; have HI := Qa.mk hI4; clear hI4; (try clear hx2); (try clear hb0); (try clear hb1)) | (go_at_call 69; (try simp only [Wp]); (with_reducible refine (HHALF.out w0 _ pb _ _ a d (wrap64 (Int.tdiv x 2)) v1 s1 HC.out HI.out ?side1 ?side2 HA.out).mono ?_); (case side1 => have := HLV.out; have := HLE.out; simp at *; omega); (case side2 => have := HLV.out; have := HLE.out; simp at *; omega); rintro e w5 ⟨rfl, hI5⟩; clear HI; have HI := Qa.mk hI5; clear hI5) | (go_at_call 70; (with_reducible refine (Zg.calls k f d t _ AT.out).mono ?_); rintro e w6 ⟨rfl, hd⟩; have n0_ := Qa.mk (Zx.below HI.out hd.below); clear HI; have HI := n0_; clear n0_; clear hd) | (go_at_call 69; (try simp only [Wp]); (with_reducible refine (HHALF.out w0 _ pb _ _ a t (wrap64 (Int.tdiv x 2)) v2 s2 HC.out HI.out ?side1 ?side2 HA3.out).mono ?_); (case side1 => have := HLV.out; have := HLE.out; simp at *; omega); (case side2 => have := HLV.out; have := HLE.out; simp at *; omega); rintro e w5 ⟨rfl, hI5⟩; clear HI; have HI := Qa.mk hI5; clear hI5))
     exact bodyPost_end (results_none Try.results51 _ _ _) rfl ⟨rfl, by have h_ := HI.out; simpa using h_⟩
    ·have f4b : (f == 4) = false := beq_eq_false_iff_ne.mpr f4
     have f5b : (f == 5) = true := beq_iff_eq.mpr (f45.resolve_left f4)
     have HA := Qa.mk A1_
     have AT := Qa.mk A2_
     have HA3 := Qa.mk A3_
     have HLV : Qa (V.length + 1 + v1.length + v2.length <= 100000) := ⟨by simp at hV; omega⟩
     have HLE : Qa (E.length + (endL 3 a (wrap64 (x - wrap64 (2 * wrap64 (Int.tdiv x 2))))).length + s1.length + s2.length <= 100000) := ⟨by simp at hE; omega⟩
     clear h hV hE f1 f7 f6 A1_ A2_ A3_
     clear f45 f4
     go_enter Try.func51, Try.ntmps51
     go_wp2_with (first | ((with_reducible refine Zz (b := .append) (xs := #[.tmp 16, .tmp 21]) rfl ?_); at_builtin; refine Kd.Xd k34 (w0 := w0) w0.heap.size rfl (.tmp 16) (.tmp 21) 28 34 (.agg #[.int .i64 0, .int .i64 0, .int .i64 0]) 24 rfl Try.underlying28 infoV rfl (by decide) (by omega) (.slice Av V.length cv) V (⟨a, d, x⟩ : TV) [.int .i64 a, .int .i64 d, .int .i64 x] (fun _ => True) (fun _ => False) rfl rfl ?aP (fun _ hk => hk.elim) ?aF ?aO ?aB ?aS ?aL ?_; (case aP => exact k34_mkM _ _ _ (⟨a, d, x⟩ : TV)); (case aF => exact fun _ _ => trivial); (case aO => exact HVV.out); (case aB => exact HB.out); (case aS => exact HB.out.size); (case aL => have := HLV.out; omega); intro v1 w1 ho hb1_ hg hat; obtain ⟨A1_, c1_, e1⟩ := Kd.Zk ho; subst e1; have BK1 := Qa.mk (Wu BK.out hg (Kd.R_ne HVV.out BK.out (by decide))); have HE1 := Qa.mk (R_grown HEE.out HVV.out hg (by decide)); have HV1 := Qa.mk ho; have HB1 := Qa.mk hb1_; clear ho hb1_ hg hat; have hc1 : w1.cell? ⟨pb, 2, none⟩ = some (.slice Av V.length cv) := (Qe BK1.out 2).trans rfl; have hf1 := Qf BK1.out 2) | ((with_reducible refine gate_store (t := 28) (p := 24) rfl ?_); refine Xu (t := 28) (p := 24) (v := ?vo) (w1 := (w1.setCell ⟨pb, 2, none⟩ (.slice A1_ (V.length + 1) c1_))) ?hg ?ho ?hn ?hr ?_; (case ho => rfl); (case hg => rfl); (case hn => rfl); (case hr => first | (go_simp; done) | (go_simp; rfl)); intro w2 hw; clear hc1 hf1; have n0_ : Zx w0 w2 pb n (some ad) l.length cp (V ++ [⟨a, d, x⟩]) E := (by rw [hw]; exact ⟨_, _, Wm BK1.out 2 _ (by simp), R_store HV1.out BK1.out (by decide) 2 _, R_store HE1.out BK1.out (by decide) 2 _, walk_store HB1.out HP.out 2 _, HP.out⟩); clear hw; have HI := Qa.mk n0_; clear n0_; clear BK1 HV1 HE1 HB1; have hb0 := (Zx.cells HI.out).1; have hb1 := (Zx.cells HI.out).2; have hx2 := HAT.out w2 HI.out.b) | (go_at_call 68; (try simp only [Wp]); (with_reducible refine (l11_end_calls w0 _ pb n (some ad) l.length cp _ E 3 a (wrap64 (x - wrap64 (2 * wrap64 (Int.tdiv x 2)))) HI.out ?side1).mono ?_); (case side1 => have := HLE.out; omega); rintro e w4 ⟨rfl, hI4⟩; clear HI; have HI := Qa.mk hI4; clear hI4; (try clear hx2); (try clear hb0); (try clear hb1)) | (go_at_call 69; (try simp only [Wp]); (with_reducible refine (HHALF.out w0 _ pb _ _ a d (wrap64 (Int.tdiv x 2)) v1 s1 HC.out HI.out ?side1 ?side2 HA.out).mono ?_); (case side1 => have := HLV.out; have := HLE.out; simp at *; omega); (case side2 => have := HLV.out; have := HLE.out; simp at *; omega); rintro e w5 ⟨rfl, hI5⟩; clear HI; have HI := Qa.mk hI5; clear hI5) | (go_at_call 70; (with_reducible refine (Zg.calls k f d t _ AT.out).mono ?_); rintro e w6 ⟨rfl, hd⟩; have n0_ := Qa.mk (Zx.below HI.out hd.below); clear HI; have HI := n0_; clear n0_; clear hd) | (go_at_call 69; (try simp only [Wp]); (with_reducible refine (HHALF.out w0 _ pb _ _ a t (wrap64 (Int.tdiv x 2)) v2 s2 HC.out HI.out ?side1 ?side2 HA3.out).mono ?_); (case side1 => have := HLV.out; have := HLE.out; simp at *; omega); (case side2 => have := HLV.out; have := HLE.out; simp at *; omega); rintro e w5 ⟨rfl, hI5⟩; clear HI; have HI := Qa.mk hI5; clear hI5))
     exact bodyPost_end (results_none Try.results51 _ _ _) rfl ⟨rfl, by have h_ := HI.out; simpa using h_⟩
   rw [if_neg f45] at h
   obtain ⟨t, A2_, h⟩ := Option.bind_eq_some_iff.mp h
   obtain ⟨⟨v1, s1⟩, A1_, h⟩ := Option.bind_eq_some_iff.mp h
   obtain ⟨rfl, rfl⟩ := Prod.mk.inj (Option.some.inj h)
   have f4b : (f == 4) = false := beq_eq_false_iff_ne.mpr (fun e => f45 (.inl e))
   have f5b : (f == 5) = false := beq_eq_false_iff_ne.mpr (fun e => f45 (.inr e))
   have AL := Qa.mk A1_
   have AT := Qa.mk A2_
   have HLV : Qa (V.length + 1 + v1.length <= 100000) := ⟨by simp at hV; omega⟩
   have HLE : Qa (E.length + s1.length <= 100000) := ⟨by simp at hE; omega⟩
   clear h hV hE f1 f7 f6 f45 A1_ A2_
   go_enter Try.func51, Try.ntmps51
   go_wp2_with (first | ((with_reducible refine Zz (b := .append) (xs := #[.tmp 16, .tmp 21]) rfl ?_); at_builtin; refine Kd.Xd k34 (w0 := w0) w0.heap.size rfl (.tmp 16) (.tmp 21) 28 34 (.agg #[.int .i64 0, .int .i64 0, .int .i64 0]) 24 rfl Try.underlying28 infoV rfl (by decide) (by omega) (.slice Av V.length cv) V (⟨a, d, x⟩ : TV) [.int .i64 a, .int .i64 d, .int .i64 x] (fun _ => True) (fun _ => False) rfl rfl ?aP (fun _ hk => hk.elim) ?aF ?aO ?aB ?aS ?aL ?_; (case aP => exact k34_mkM _ _ _ (⟨a, d, x⟩ : TV)); (case aF => exact fun _ _ => trivial); (case aO => exact HVV.out); (case aB => exact HB.out); (case aS => exact HB.out.size); (case aL => have := HLV.out; omega); intro v1 w1 ho hb1_ hg hat; obtain ⟨A1_, c1_, e1⟩ := Kd.Zk ho; subst e1; have BK1 := Qa.mk (Wu BK.out hg (Kd.R_ne HVV.out BK.out (by decide))); have HE1 := Qa.mk (R_grown HEE.out HVV.out hg (by decide)); have HV1 := Qa.mk ho; have HB1 := Qa.mk hb1_; clear ho hb1_ hg hat; have hc1 : w1.cell? ⟨pb, 2, none⟩ = some (.slice Av V.length cv) := (Qe BK1.out 2).trans rfl; have hf1 := Qf BK1.out 2) | ((with_reducible refine gate_store (t := 28) (p := 24) rfl ?_); refine Xu (t := 28) (p := 24) (v := ?vo) (w1 := (w1.setCell ⟨pb, 2, none⟩ (.slice A1_ (V.length + 1) c1_))) ?hg ?ho ?hn ?hr ?_; (case ho => rfl); (case hg => rfl); (case hn => rfl); (case hr => first | (go_simp; done) | (go_simp; rfl)); intro w2 hw; clear hc1 hf1; have n0_ : Zx w0 w2 pb n (some ad) l.length cp (V ++ [⟨a, d, x⟩]) E := (by rw [hw]; exact ⟨_, _, Wm BK1.out 2 _ (by simp), R_store HV1.out BK1.out (by decide) 2 _, R_store HE1.out BK1.out (by decide) 2 _, walk_store HB1.out HP.out 2 _, HP.out⟩); clear hw; have HI := Qa.mk n0_; clear n0_; clear BK1 HV1 HE1 HB1; have hb0 := (Zx.cells HI.out).1; have hb1 := (Zx.cells HI.out).2; have hx2 := HAT.out w2 HI.out.b) | (go_at_call 70; (with_reducible refine (Zg.calls k f d t _ AT.out).mono ?_); rintro e w6 ⟨rfl, hd⟩; have n0_ := Qa.mk (Zx.below HI.out hd.below); clear HI; have HI := n0_; clear n0_; clear hd) | (go_at_call 71; (with_reducible refine (HLEAVE.out w0 _ pb _ _ a t x _ _ HC.out HI.out ?side1 ?side2 AL.out).mono ?_); (case side1 => have := HLV.out; have := HLE.out; simp at *; omega); (case side2 => have := HLV.out; have := HLE.out; simp at *; omega); rintro e w5 ⟨rfl, hI5⟩; clear HI; have HI := Qa.mk hI5; clear hI5))
   exact bodyPost_end (results_none Try.results51 _ _ _) rfl ⟨rfl, by have h_ := HI.out; simpa using h_⟩
  ·rw [if_neg h1] at h
   cases h
 ·rw [if_neg h0] at h
  cases h
theorem come_calls (k : Nat) (n : Int) (l : List S42) (A : Option Addr) (cp : Nat) (hl : l.length <= cp) : ∀ q, Walks 51 (comeC k n l q) n l A cp
 | 0 => fun w0 w pb V E a d x vs es hC hI hV hE h => by cases h
 | q + 1 => come_step k n l A cp hl q (come_calls k n l A cp hl q)
end Go.Proofs.Yteapnipnoadejaa.P
