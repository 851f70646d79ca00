/- PROVED: the reference's walk from a sight, its ends and its visits. No condition but the grid's. -/
import Derived.Test.YteapnipnoadejaaPx22
import Derived.Test.YteapnipnoadejaaPx21
import Derived.Test.YteapnipnoadejaaT2Come
namespace Go.Proofs.Yteapnipnoadejaa.P
open Go.RowKit Go.Proofs.YteapnipnoadejaaW
set_option linter.unusedVariables false
set_option linter.unusedSimpArgs false
def Xe.f (k : Nat) (n : Int) (l : List S42) (a : Int) : TR :=
 (Xm.f n l a).bind fun r => (comeC k n l k r.1 r.2 64).bind fun p => if p.1.length <= 100000 ∧ p.2.length <= 100000 then some p else none
set_option maxRecDepth 100000 in
set_option maxHeartbeats 4000000 in
theorem Xe.calls (k : Nat) (n : Int) (A : Option Addr) (cp : Nat) (l : List S42) (a : Int) (V : List TV) (E : List TE) (w : World) (hC : Kd.C k42 w A l.length l) (hl : l.length <= cp) (h : Xe.f k n l a = some (V, E)) :
  Calls Try.prog 30 #[.agg #[.int .i64 n, .slice A l.length cp], .int .i64 a] w fun e w' => ∃ pb, e = .returned (.pointer (some ⟨pb, 0, none⟩)) ∧ Zx w w' pb n A l.length cp V E := by
 have huG := Try.underlying25
 have huR := Try.underlying44
 have huW := Try.underlying58
 unfold Xe.f at h
 obtain ⟨⟨b, d⟩, A1_, h⟩ := Option.bind_eq_some_iff.mp h
 obtain ⟨⟨v1, e1⟩, A2_, h⟩ := Option.bind_eq_some_iff.mp h
 by_cases hlen : v1.length <= 100000 ∧ e1.length <= 100000
 ·rw [if_pos hlen] at h
  obtain ⟨rfl, rfl⟩ := Prod.mk.inj (Option.some.inj h)
  have A1 := Qa.mk A1_
  have A2 := Qa.mk A2_
  have HLEN := Qa.mk hlen
  have HC := Qa.mk hC
  have HL := Qa.mk hl
  clear h A1_ A2_ hlen hC hl
  go_enter Try.func30, Try.ntmps30
  go_wp2_with (first | ((with_reducible refine We (N := 2) rfl ?_); refine Qy ?hg (N := 2) ?hd (cs := #[.int .i64 n, .slice A l.length cp]) (t := 25) ?hr ?_; (case hd => rfl); (case hg => rfl); (case hr => first | (go_simp; done) | (go_simp; rfl)); intro gb hg w1 hbox hb; have BK := Qa.mk hbox; have HB := Qa.mk hb; have hb0 : w1.cell? ⟨gb, 0, none⟩ = some (.int .i64 n) := (Qe hbox 0).trans rfl; have hb1 : w1.cell? ⟨gb, 1, none⟩ = some (.slice A l.length cp) := (Qe hbox 1).trans rfl; clear hg hbox hb) | ((with_reducible refine We (N := 8) rfl ?_); refine Kd.R_lit k34 _ 34 ?hg (N := 8) ?hd (xs := []) (inner := []) (ok := fun _ => True) (okp := fun _ => True) ?hr ?hp (fun _ hk => hk) trivial (Below.refl _ _) (Nat.le_refl _) (by simp) ?_; (case hd => rfl); (case hg => rfl); (case hr => first | (go_simp; done) | (go_simp; rfl)); (case hp => exact (Reps.none _ _)); intro v1 w2 ho hb hg_ hnew_; clear hg_ hnew_; obtain ⟨Av_, cv_, eo_⟩ := Kd.Zk ho; subst eo_; have HV := Qa.mk (Kd.Yy ho HB.out.size); skip; have n0_ := Qa.mk (Ql HB.out hb); have n1_ := Qa.mk (Qk BK.out hb); clear HB BK; have HB := n0_; have BK := n1_; clear n0_ n1_; clear ho hb) | ((with_reducible refine We (N := 9) rfl ?_); refine Kd.R_lit k38 _ 38 ?hg (N := 9) ?hd (xs := []) (inner := []) (ok := fun _ => True) (okp := fun _ => True) ?hr ?hp (fun _ hk => hk) trivial (Below.refl _ _) (Nat.le_refl _) (by simp) ?_; (case hd => rfl); (case hg => rfl); (case hr => first | (go_simp; done) | (go_simp; rfl)); (case hp => exact (Reps.none _ _)); intro v1 w3 ho hb hg_ hnew_; clear hg_ hnew_; obtain ⟨Ae_, ce_, eo_⟩ := Kd.Zk ho; subst eo_; have HE := Qa.mk (Kd.Yy ho HB.out.size); have nv_ := Qa.mk (Kd.Ze HV.out hb); clear HV; have HV := nv_; clear nv_; have n0_ := Qa.mk (Ql HB.out hb); have n1_ := Qa.mk (Qk BK.out hb); clear HB BK; have HB := n0_; have BK := n1_; clear n0_ n1_; clear ho hb) | ((with_reducible refine We (N := 11) rfl ?_); refine Qy ?hg (N := 11) ?hd (cs := #[.int .i64 n, .slice A l.length cp, .slice Av_ 0 cv_, .slice Ae_ 0 ce_]) (t := 58) ?hr ?_; (case hd => rfl); (case hg => rfl); (case hr => first | (go_simp; done) | (go_simp; rfl)); intro pb hg w1 hbox hb; have HI := Qa.mk (show Zx w w1 pb n A l.length cp [] [] from ⟨_, _, hbox, Kd.Ze HV.out hb, Kd.Ze HE.out hb, Ql HB.out hb, hg ▸ HB.out.size⟩); have n1_ := Qa.mk (Qk BK.out hb); clear BK; have BK := n1_; clear n1_; (try clear hb0); (try clear hb1); have hb0 : w1.cell? ⟨gb, 0, none⟩ = some (.int .i64 n) := (Qe BK.out 0).trans rfl; have hb1 : w1.cell? ⟨gb, 1, none⟩ = some (.slice A l.length cp) := (Qe BK.out 1).trans rfl; clear hbox hb hg HV HE HB) | (go_at_call 50; (with_reducible refine (Xm.calls n A cp l a b d _ ?side1 ?side2 A1.out).mono ?_); (case side1 => exact Kd.Zi HC.out HI.out.b); (case side2 => exact HL.out); rintro e w4 ⟨rfl, hb⟩; have n0_ := Qa.mk (Zx.below HI.out hb); clear HI; have HI := n0_; clear n0_ hb; (try clear hb0); (try clear hb1)) | ((with_reducible refine We (N := 6) rfl ?_); refine Qy ?hg (N := 6) ?hd (cs := #[.int .i64 0, .int .i64 0]) (t := 44) ?hr ?_; (case hd => rfl); (case hg => rfl); (case hr => first | (go_simp; done) | (go_simp; rfl)); intro rb hg w1 hbox hb; have hz0 : w1.cell? ⟨rb, 0, none⟩ = some (.int .i64 0) := (Qe hbox 0).trans rfl; have hz1 : w1.cell? ⟨rb, 1, none⟩ = some (.int .i64 0) := (Qe hbox 1).trans rfl; have hfz0 := Qf hbox 0; have hfz1 := Qf hbox 1; have GE := Qa.mk (show _ <= rb from Nat.le_of_eq hg.symm); have HS := Qa.mk hb; clear hbox hb hg) | (go_at_call 51; (with_reducible refine (come_calls k n l A cp HL.out k w _ pb [] [] b d 64 _ _ HC.out ?side1 ?side2 ?side3 A2.out).mono ?_); (case side1 => exact Zx.below HI.out (by repeat (first | exact HS.out | refine Qm ?_ GE.out))); (case side2 => exact HLEN.out.1); (case side3 => exact HLEN.out.2); rintro e w5 ⟨rfl, hI⟩; have HI5 := Qa.mk hI; clear hI))
  go_ret
  exact ⟨pb, rfl, HI5.out⟩
 ·rw [if_neg hlen] at h
  cases h
def spec_l11GoE.f (k : Nat) (n : Int) (l : List S42) (a : Int) : Option (List TE) := (Xe.f k n l a).bind fun r => some r.2
theorem spec_l11GoE.calls (k : Nat) (n : Int) (A : Option Addr) (cp : Nat) (l : List S42) (a : Int) (r : List TE) (w : World) (hC : Kd.C k42 w A l.length l) (hl : l.length <= cp) (h : spec_l11GoE.f k n l a = some r) :
  Calls Try.prog 30 #[.agg #[.int .i64 n, .slice A l.length cp], .int .i64 a] w fun e w' => ∃ (v1_ : Value) (pb : Nat), e = .returned (.pointer (some ⟨pb, 0, none⟩)) ∧ w'.cell? ⟨pb, 3, none⟩ = some v1_ ∧ Kd.R k38 38 w' w.heap.size (fun _ => True) v1_ r ∧ Below w.heap.size w w' := by
 unfold spec_l11GoE.f at h
 obtain ⟨⟨V, E⟩, A1_, h⟩ := Option.bind_eq_some_iff.mp h
 obtain rfl := Option.some.inj h
 refine (Xe.calls k n A cp l a V E w hC hl A1_).mono ?_
 rintro e w1 ⟨pb, rfl, vv, ve, hblk, hV, hE, hB, _⟩
 exact ⟨ve, pb, rfl, (Qe hblk 3).trans rfl, hE, hB⟩
def Zw.f (k : Nat) (n : Int) (l : List S42) (a : Int) : Option (List TV) :=
 (Xw.f k n l a).bind fun b => if b = true then (Xe.f k n l a).bind fun r => some r.1 else some []
set_option maxRecDepth 100000 in
set_option maxHeartbeats 4000000 in
theorem Zw.calls (k : Nat) (n : Int) (A : Option Addr) (cp : Nat) (l : List S42) (a : Int) (r : List TV) (w : World) (hC : Kd.C k42 w A l.length l) (hl : l.length <= cp) (h : Zw.f k n l a = some r) :
  Calls Try.prog 13 #[.agg #[.int .i64 n, .slice A l.length cp], .int .i64 a] w fun e w' => ∃ v1_ : Value, e = .returned v1_ ∧ Kd.R k34 34 w' w.heap.size (fun _ => True) v1_ r ∧ Below w.heap.size w w' := by
 have huG := Try.underlying25
 have huW := Try.underlying58
 unfold Zw.f at h
 obtain ⟨g, A1_, h⟩ := Option.bind_eq_some_iff.mp h
 have A1 := Qa.mk A1_
 have HC := Qa.mk hC
 have HL := Qa.mk hl
 clear A1_ hC hl
 cases g with
 | false =>
  rw [if_neg (by decide)] at h
  obtain rfl := Option.some.inj h
  clear h
  go_enter Try.func13, Try.ntmps13
  go_wp2_with (first | ((with_reducible refine We (N := 2) rfl ?_); refine Qy ?hg (N := 2) ?hd (cs := #[.int .i64 n, .slice A l.length cp]) (t := 25) ?hr ?_; (case hd => rfl); (case hg => rfl); (case hr => first | (go_simp; done) | (go_simp; rfl)); intro gb hg w1 hbox hb; have BK := Qa.mk hbox; have HB := Qa.mk hb; have hb0 : w1.cell? ⟨gb, 0, none⟩ = some (.int .i64 n) := (Qe hbox 0).trans rfl; have hb1 : w1.cell? ⟨gb, 1, none⟩ = some (.slice A l.length cp) := (Qe hbox 1).trans rfl; clear hg hbox hb) | (go_at_call 29; (with_reducible refine (Xw.calls k n A cp l a false _ ?side1 ?side2 A1.out).mono ?_); (case side1 => exact Kd.Zi HC.out HB.out); (case side2 => exact HL.out); rintro e w2 ⟨rfl, hb⟩; have n0_ := Qa.mk (Ql HB.out hb); have n1_ := Qa.mk (Qk BK.out hb); clear HB BK; have HB := n0_; have BK := n1_; clear n0_ n1_ hb; (try clear hb0); (try clear hb1); have hb0 : w2.cell? ⟨gb, 0, none⟩ = some (.int .i64 n) := (Qe BK.out 0).trans rfl; have hb1 : w2.cell? ⟨gb, 1, none⟩ = some (.slice A l.length cp) := (Qe BK.out 1).trans rfl) | ((with_reducible refine We (N := 9) rfl ?_); refine Kd.R_lit k34 _ 34 ?hg (N := 9) ?hd (xs := []) (inner := []) (ok := fun _ => True) (okp := fun _ => True) ?hr ?hp (fun _ hk => hk) trivial (Below.refl _ _) (Nat.le_refl _) (by simp) ?_; (case hd => rfl); (case hg => rfl); (case hr => first | (go_simp; done) | (go_simp; rfl)); (case hp => exact (Reps.none _ _)); intro v1 w3 ho hb hg_ hnew_; clear hg_ hnew_; obtain ⟨Ao_, co_, eo_⟩ := Kd.Zk ho; subst eo_; have HO := Qa.mk (Kd.Yy ho HB.out.size); skip; have n0_ := Qa.mk (Ql HB.out hb); have n1_ := Qa.mk (Qk BK.out hb); clear HB BK; have HB := n0_; have BK := n1_; clear n0_ n1_; clear ho hb))
  go_ret
  exact ⟨_, rfl, HO.out, HB.out⟩
 | true =>
  rw [if_pos rfl] at h
  obtain ⟨⟨V, E⟩, A2_, h⟩ := Option.bind_eq_some_iff.mp h
  obtain rfl := Option.some.inj h
  have A2 := Qa.mk A2_
  clear A2_ h
  go_enter Try.func13, Try.ntmps13
  go_wp2_with (first | ((with_reducible refine We (N := 2) rfl ?_); refine Qy ?hg (N := 2) ?hd (cs := #[.int .i64 n, .slice A l.length cp]) (t := 25) ?hr ?_; (case hd => rfl); (case hg => rfl); (case hr => first | (go_simp; done) | (go_simp; rfl)); intro gb hg w1 hbox hb; have BK := Qa.mk hbox; have HB := Qa.mk hb; have hb0 : w1.cell? ⟨gb, 0, none⟩ = some (.int .i64 n) := (Qe hbox 0).trans rfl; have hb1 : w1.cell? ⟨gb, 1, none⟩ = some (.slice A l.length cp) := (Qe hbox 1).trans rfl; clear hg hbox hb) | (go_at_call 29; (with_reducible refine (Xw.calls k n A cp l a true _ ?side1 ?side2 A1.out).mono ?_); (case side1 => exact Kd.Zi HC.out HB.out); (case side2 => exact HL.out); rintro e w2 ⟨rfl, hb⟩; have n0_ := Qa.mk (Ql HB.out hb); have n1_ := Qa.mk (Qk BK.out hb); clear HB BK; have HB := n0_; have BK := n1_; clear n0_ n1_ hb; (try clear hb0); (try clear hb1); have hb0 : w2.cell? ⟨gb, 0, none⟩ = some (.int .i64 n) := (Qe BK.out 0).trans rfl; have hb1 : w2.cell? ⟨gb, 1, none⟩ = some (.slice A l.length cp) := (Qe BK.out 1).trans rfl) | (go_at_call 30; (with_reducible refine (Xe.calls k n A cp l a V E _ ?side1 ?side2 A2.out).mono ?_); (case side1 => exact Kd.Zi HC.out HB.out); (case side2 => exact HL.out); rintro e w3 ⟨pb, rfl, hI⟩; obtain ⟨vv, ve, hblk, hV, hE, hB3, _⟩ := hI; obtain ⟨Ao_, co_, eo_⟩ := Kd.Zk hV; subst eo_; have HO := Qa.mk (Kd.Yy hV HB.out.size); have n0_ := Qa.mk (Ql HB.out hB3); clear HB; have HB := n0_; clear n0_ hB3 hV hE; have hp0 : w3.cell? ⟨pb, 2, none⟩ = some (.slice Ao_ V.length co_) := (Qe hblk 2).trans rfl; clear hblk))
  go_ret
  exact ⟨_, rfl, HO.out, HB.out⟩
def spec_TrailEnds.f (k : Nat) (n : Int) (l : List S42) (a : Int) : Option (List TE) :=
 (Xw.f k n l a).bind fun b => if b = true then (Xe.f k n l a).bind fun r => some r.2 else some []
set_option maxRecDepth 100000 in
set_option maxHeartbeats 4000000 in
theorem spec_TrailEnds.calls (k : Nat) (n : Int) (A : Option Addr) (cp : Nat) (l : List S42) (a : Int) (r : List TE) (w : World) (hC : Kd.C k42 w A l.length l) (hl : l.length <= cp) (h : spec_TrailEnds.f k n l a = some r) :
  Calls Try.prog 19 #[.agg #[.int .i64 n, .slice A l.length cp], .int .i64 a] w fun e w' => ∃ v1_ : Value, e = .returned v1_ ∧ Kd.R k38 38 w' w.heap.size (fun _ => True) v1_ r ∧ Below w.heap.size w w' := by
 have huG := Try.underlying25
 have huW := Try.underlying58
 unfold spec_TrailEnds.f at h
 obtain ⟨g, A1_, h⟩ := Option.bind_eq_some_iff.mp h
 have A1 := Qa.mk A1_
 have HC := Qa.mk hC
 have HL := Qa.mk hl
 clear A1_ hC hl
 cases g with
 | false =>
  rw [if_neg (by decide)] at h
  obtain rfl := Option.some.inj h
  clear h
  go_enter Try.func19, Try.ntmps19
  go_wp2_with (first | ((with_reducible refine We (N := 2) rfl ?_); refine Qy ?hg (N := 2) ?hd (cs := #[.int .i64 n, .slice A l.length cp]) (t := 25) ?hr ?_; (case hd => rfl); (case hg => rfl); (case hr => first | (go_simp; done) | (go_simp; rfl)); intro gb hg w1 hbox hb; have BK := Qa.mk hbox; have HB := Qa.mk hb; have hb0 : w1.cell? ⟨gb, 0, none⟩ = some (.int .i64 n) := (Qe hbox 0).trans rfl; have hb1 : w1.cell? ⟨gb, 1, none⟩ = some (.slice A l.length cp) := (Qe hbox 1).trans rfl; clear hg hbox hb) | (go_at_call 29; (with_reducible refine (Xw.calls k n A cp l a false _ ?side1 ?side2 A1.out).mono ?_); (case side1 => exact Kd.Zi HC.out HB.out); (case side2 => exact HL.out); rintro e w2 ⟨rfl, hb⟩; have n0_ := Qa.mk (Ql HB.out hb); have n1_ := Qa.mk (Qk BK.out hb); clear HB BK; have HB := n0_; have BK := n1_; clear n0_ n1_ hb; (try clear hb0); (try clear hb1); have hb0 : w2.cell? ⟨gb, 0, none⟩ = some (.int .i64 n) := (Qe BK.out 0).trans rfl; have hb1 : w2.cell? ⟨gb, 1, none⟩ = some (.slice A l.length cp) := (Qe BK.out 1).trans rfl) | ((with_reducible refine We (N := 9) rfl ?_); refine Kd.R_lit k38 _ 38 ?hg (N := 9) ?hd (xs := []) (inner := []) (ok := fun _ => True) (okp := fun _ => True) ?hr ?hp (fun _ hk => hk) trivial (Below.refl _ _) (Nat.le_refl _) (by simp) ?_; (case hd => rfl); (case hg => rfl); (case hr => first | (go_simp; done) | (go_simp; rfl)); (case hp => exact (Reps.none _ _)); intro v1 w3 ho hb hg_ hnew_; clear hg_ hnew_; obtain ⟨Ao_, co_, eo_⟩ := Kd.Zk ho; subst eo_; have HO := Qa.mk (Kd.Yy ho HB.out.size); skip; have n0_ := Qa.mk (Ql HB.out hb); have n1_ := Qa.mk (Qk BK.out hb); clear HB BK; have HB := n0_; have BK := n1_; clear n0_ n1_; clear ho hb))
  go_ret
  exact ⟨_, rfl, HO.out, HB.out⟩
 | true =>
  rw [if_pos rfl] at h
  obtain ⟨⟨V, E⟩, A2_, h⟩ := Option.bind_eq_some_iff.mp h
  obtain rfl := Option.some.inj h
  have A2 := Qa.mk A2_
  clear A2_ h
  go_enter Try.func19, Try.ntmps19
  go_wp2_with (first | ((with_reducible refine We (N := 2) rfl ?_); refine Qy ?hg (N := 2) ?hd (cs := #[.int .i64 n, .slice A l.length cp]) (t := 25) ?hr ?_; (case hd => rfl); (case hg => rfl); (case hr => first | (go_simp; done) | (go_simp; rfl)); intro gb hg w1 hbox hb; have BK := Qa.mk hbox; have HB := Qa.mk hb; have hb0 : w1.cell? ⟨gb, 0, none⟩ = some (.int .i64 n) := (Qe hbox 0).trans rfl; have hb1 : w1.cell? ⟨gb, 1, none⟩ = some (.slice A l.length cp) := (Qe hbox 1).trans rfl; clear hg hbox hb) | (go_at_call 29; (with_reducible refine (Xw.calls k n A cp l a true _ ?side1 ?side2 A1.out).mono ?_); (case side1 => exact Kd.Zi HC.out HB.out); (case side2 => exact HL.out); rintro e w2 ⟨rfl, hb⟩; have n0_ := Qa.mk (Ql HB.out hb); have n1_ := Qa.mk (Qk BK.out hb); clear HB BK; have HB := n0_; have BK := n1_; clear n0_ n1_ hb; (try clear hb0); (try clear hb1); have hb0 : w2.cell? ⟨gb, 0, none⟩ = some (.int .i64 n) := (Qe BK.out 0).trans rfl; have hb1 : w2.cell? ⟨gb, 1, none⟩ = some (.slice A l.length cp) := (Qe BK.out 1).trans rfl) | (go_at_call 30; (with_reducible refine (Xe.calls k n A cp l a V E _ ?side1 ?side2 A2.out).mono ?_); (case side1 => exact Kd.Zi HC.out HB.out); (case side2 => exact HL.out); rintro e w3 ⟨pb, rfl, hI⟩; obtain ⟨vv, ve, hblk, hV, hE, hB3, _⟩ := hI; obtain ⟨Ao_, co_, eo_⟩ := Kd.Zk hE; subst eo_; have HO := Qa.mk (Kd.Yy hE HB.out.size); have n0_ := Qa.mk (Ql HB.out hB3); clear HB; have HB := n0_; clear n0_ hB3 hV hE; have hp0 : w3.cell? ⟨pb, 3, none⟩ = some (.slice Ao_ E.length co_) := (Qe hblk 3).trans rfl; clear hblk))
  go_ret
  exact ⟨_, rfl, HO.out, HB.out⟩
end Go.Proofs.Yteapnipnoadejaa.P
