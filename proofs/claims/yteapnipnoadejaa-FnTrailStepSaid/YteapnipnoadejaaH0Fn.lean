/- PROVED: a call through a variable that holds a known function is a call of that function. No condition. -/
import Derived.Test.YteapnipnoadejaaWAll
namespace Go.Proofs.YteapnipnoadejaaW
open Go.RowKit
set_option linter.unusedVariables false
section
variable {P : Program} {ops : Array Oper} {Q : Exit -> Act -> World -> Prop}
theorem goesV_ {rest : List Oper} {oi : Oper} {a : Act} {w : World} (N : Option Tmp) (hd : oi.dst = N) (hg : oi.guard = none) {f : FuncId} {fn : Func} {v : Operand} {as : Array Operand} {ts : Array TypeId} (hf : P.funcs[f]? = some fn) (hname : (fn.name == "runtime.NumGoroutine") = false) (hb : fn.body.isSome = true) (args : Array Value)
  (hop : oi.op = .call { callee := .value v, args := as, argTypes := ts }) (hv : a.eval v = .func (.func f) #[] #[]) (hargs : as.map a.eval = args)
  (h : Calls P f args w fun e w' => ∃ v, e = .returned v ∧ wpList P ops Q rest (a.put N v) w') : wpList P ops Q (oi :: rest) a w := by
 refine wpList_plain hg fun K hK => ?_
 have he := enters_ hf hname hb args w
 have hrun : (execOp a.eval oi).run P w = .ok (.enter f args) w := by
  unfold execOp
  simp [hop, resolve, Deferred.ofValue, invoke, hv, hargs, he]
 unfold Oper.wp
 rw [hrun, Oper.upon_enter]
 refine h.mono fun e w'' hh => ?_
 obtain ⟨v, rfl, hk⟩ := hh
 subst hd
 exact hK _ _ hk
theorem goesC_ {rest : List Oper} {oi : Oper} {a : Act} {w : World} (N : Option Tmp) (hd : oi.dst = N) (hg : oi.guard = none) {f : FuncId} {fn : Func} {v : Operand} {as : Array Operand} {ts : Array TypeId} (hf : P.funcs[f]? = some fn) (hname : (fn.name == "runtime.NumGoroutine") = false) (hb : fn.body.isSome = true) (args cap : Array Value)
  (hop : oi.op = .call { callee := .value v, args := as, argTypes := ts }) (hv : a.eval v = .func (.func f) #[] cap) (hargs : as.map a.eval = args)
  (h : Calls P f (args ++ cap) w fun e w' => ∃ v, e = .returned v ∧ wpList P ops Q rest (a.put N v) w') : wpList P ops Q (oi :: rest) a w := by
 refine wpList_plain hg fun K hK => ?_
 have he := enters_ hf hname hb (args ++ cap) w
 have hrun : (execOp a.eval oi).run P w = .ok (.enter f (args ++ cap)) w := by
  unfold execOp
  simp [hop, resolve, Deferred.ofValue, invoke, hv, hargs, he]
 unfold Oper.wp
 rw [hrun, Oper.upon_enter]
 refine h.mono fun e w'' hh => ?_
 obtain ⟨v, rfl, hk⟩ := hh
 subst hd
 exact hK _ _ hk
end
theorem Qh {w W : World} {g j : Nat} {v : Value} (h : Below w.heap.size w W) (hg : Qa (w.heap.size <= g)) : Below w.heap.size w (W.setCell ⟨g, j, none⟩ v) := Qm h hg.out
end Go.Proofs.YteapnipnoadejaaW
namespace Go.Proofs.YteapnipnoadejaaW
set_option linter.unusedVariables false
open Go.RowKit
namespace Kd
section
variable {α : Type} {P : Program} {ops : Array Oper} {rest : List Oper} {o : Oper} {a : Act} {Q : Exit -> Act -> World -> Prop}
theorem R_make0 (d : Kd α) {w0 W : World} (base e : Nat) (hgd : o.guard = none) {N : Tmp} (hd : o.dst = some N) (t : TypeId) (x y : Operand) (ho : o.op = .makeSlice t x y) (n : Int) (hx : a.eval x = .int .i64 0) (hy : a.eval y = .int .i64 n)
  (ht : P.underlying t = some (.slice e)) (z : Value) (bytes : Nat) (hinfo : (P.info? e).map (fun i => (i.zero, i.size, i.bytes)) = some (some z, d.sz, bytes)) (hz : z.cells.size = d.sz) (hs0 : 0 < d.sz) (hb0 : 0 < bytes)
  {ok okp : Nat -> Prop} (hok : ∀ k, okp k -> ok k) (hfresh : ok W.heap.size) (h0 : 0 <= n) (hl : n.toNat * bytes <= 281474976710656) (HB : Below base w0 W) (hbase : base <= W.heap.size)
  (h : ∀ v1 w1, d.R e w1 base ok v1 ([] : List α) -> Below base w0 w1 -> W.grownBy w1 none -> (∃ b, v1.ownBlock = some b ∧ W.heap.size <= b) -> wpList P ops Q rest (a.put o.dst v1) w1) : wpList P ops Q (o :: rest) a W := by
 obtain ⟨m, rfl⟩ := Int.eq_ofNat_of_zero_le h0
 simp only [Int.toNat_natCast] at hl
 obtain ⟨i0, hi, hzz⟩ := Option.map_eq_some_iff.1 hinfo
 simp only [Prod.mk.injEq] at hzz
 obtain ⟨hz0, hz1, hz2⟩ := hzz
 have hm : m <= 281474976710656 := Nat.le_trans (Nat.le_mul_of_pos_right _ hb0) hl
 have hr := run_make (P := P) W t e i0 z ht hi hz0 .i64 .i64 0 (m : Int) (by omega) (by omega)
  (by
   have h3 : ((i0.bytes * m : Nat) : Int) <= 281474976710656 := by rw [hz2, Nat.mul_comm]; omega
   rwa [Int.natCast_mul] at h3) (by omega)
 simp only [Int.toNat_natCast, Int.toNat_zero] at hr
 rw [hz1] at hr
 have hrun : (execOp a.eval o).run P W = .ok (.value (.slice (some ⟨W.heap.size, 0, none⟩) 0 m)) (W.alloc (.cells (madeCells z.cells (m * d.sz)) e)) := by
  simp [execOp, ho, hx, hy, hr]
 refine event_run hgd hrun (h _ _ ⟨fun k hk => ?_, [], ?_, Reps.none _ _⟩ (HB.alloc hbase _) (World.grownBy_alloc W _ none) ⟨W.heap.size, by simp [Value.ownBlock], Nat.le_refl _⟩)
 ·have : W.heap.size = k := by simpa [Value.ownBlock] using hk
  subst this
  exact hfresh
 ·refine ⟨by simp, .inr ⟨W.heap.size, m, madeCells z.cells (m * d.sz), rfl, hbase, ?_, Nat.zero_le _, by unfold maxLen; omega, by simp [size_madeCells], by simp⟩⟩
  simpa using heap_alloc_new W _
end
end Kd
end Go.Proofs.YteapnipnoadejaaW
namespace Go.Proofs.YteapnipnoadejaaW
open Go.RowKit
class Stp (W W' : World) : Prop where
 blk : ∀ (g : Nat) (o : Obj), W.heap[g]? = some o -> W'.heap[g]? = some o
instance Stp.refl (W : World) : Stp W W := ⟨fun _ _ h => h⟩
instance Stp.alloc (W W' : World) (o : Obj) [s : Stp W W'] : Stp W (W'.alloc o) := ⟨fun g x h => Qd (s.blk g x h) o⟩
instance Stp.drew (W W' : World) [s : Stp W W'] : Stp W W'.drew := ⟨fun g x h => s.blk g x h⟩
instance Stp.drewN (W W' : World) (n : Nat) [s : Stp W W'] : Stp W (W'.drewN n) := ⟨fun g x h => s.blk g x h⟩
theorem bK {W W' : World} [s : Stp W W'] {g : Nat} {o : Obj} (h : W.heap[g]? = some o) : W'.heap[g]? = some o := s.blk g o h
theorem kR {α : Type} {d : Kd α} {e base : Nat} {W W' : World} [s : Stp W W'] {ok : Nat -> Prop} {v : Value} {xs : List α} (h : d.R e W base ok v xs) : d.R e W' base ok v xs :=
 Kd.R_step h (fun k _ hk => by rw [Array.getElem?_eq_getElem hk]; exact s.blk k _ (Array.getElem?_eq_getElem hk))
end Go.Proofs.YteapnipnoadejaaW
