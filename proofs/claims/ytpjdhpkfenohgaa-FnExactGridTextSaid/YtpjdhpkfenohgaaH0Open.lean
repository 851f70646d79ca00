/- PROVED: an argument of type laws.Grid (or laws.Cell) that can be read as data is a width and a row of cells, as the printed contracts want them. No condition. -/
import Derived.Test.YtpjdhpkfenohgaaPx0
import Derived.ProofKit
import Derived.Deep.Slices
import Derived.Lib.SmallJoins
import Derived.ChangeSame
namespace Go.Proofs.Ytpjdhpkfenohgaa.P
open Go.RowKit Go.Proofs.YtpjdhpkfenohgaaW.PrintWords Go.Proofs.YtpjdhpkfenohgaaW.PrintLast Go.Proofs.YtpjdhpkfenohgaaW.PrintMore
open Go.ChangeShapes Go.WideShapes Go.Deep Go.Joins
set_option linter.unusedVariables false
set_option linter.unusedSimpArgs false
section
variable {H : Type} {enc : TypeId × Value → H} {w : World} {base : Nat} {spare : Nat → Bool} {held : Bool}

/-- A whole number that Go's int holds. -/
def W64 (x : Int) : Prop := (Lit.int .i64 x).wf = true

theorem len2 {α : Type} : ∀ {l : List α}, l.length = 2 → ∃ a b, l = [a, b]
  | [a, b], _ => ⟨a, b, rfl⟩

theorem open_cellrow {fuel : Nat} {cs : List Value} {x : DataW H × List MemPlace} (h : DataW.trod enc Try.prog w base spare held fuel 77 cs = some x) :
    ∃ p : S77, cs = [.int .i64 p.f0, .int .i64 p.f1] ∧ W64 p.f0 ∧ W64 p.f1 := by
  obtain ⟨y0, y1, n, _, hl, h0, h1⟩ := trod_struct2 Try.underlying77 h
  obtain ⟨a, e0, _, w0⟩ := DataW.trod_int Try.underlying3 h0
  obtain ⟨b, e1, _, w1⟩ := DataW.trod_int Try.underlying3 h1
  have hC : Try.prog.cellsOf 77 = 2 := by kernel_rfl
  have hD : Try.prog.cellsOf 3 = 1 := by kernel_rfl
  rw [hC] at hl
  rw [hD] at e0 e1
  obtain ⟨c0, c1, rfl⟩ := len2 hl
  simp at e0 e1
  exact ⟨⟨a, b⟩, by rw [e0, e1], w0, w1⟩

theorem open_cells {fuel : Nat} {cs : List Value} {x : DataW H × List MemPlace} (h : DataW.trod enc Try.prog w base spare held fuel 22 cs = some x) :
    ∃ (A : Option Addr) (c : Nat) (l : List S77), cs = [.slice A l.length c] ∧ Kd.C k77 w A l.length l ∧ l.length ≤ c ∧ l.length ≤ maxLen ∧ ∀ p ∈ l, W64 p.f0 ∧ W64 p.f1 := by
  rcases open_slice Try.underlying22 h with ⟨rfl, _⟩ | ⟨a, len, cap, m, n, D, Pl, rfl, _, hl, hm, hmm, _, hi⟩
  · exact ⟨none, 0, [], rfl, ⟨rfl, by simp, fun hn => absurd hn (by simp)⟩, by simp, by simp, fun p hp => by simp at hp⟩
  · have hC : Try.prog.cellsOf 77 = 2 := by kernel_rfl
    rw [hC] at hi
    have hlm : len ≤ m := by rw [hmm]; split <;> omega
    haveI : Inhabited S77 := ⟨z77⟩
    have hall : ∀ i, i < len → ∃ p : S77, w.cells? base (a.add (i * 2)) 2 = some [.int .i64 p.f0, .int .i64 p.f1] ∧ W64 p.f0 ∧ W64 p.f1 := by
      intro i h0
      obtain ⟨cs', hc, ht⟩ := hi i (by omega)
      obtain ⟨p, rfl, w0, w1⟩ := open_cellrow ht
      exact ⟨p, hc, w0, w1⟩
    obtain ⟨f, hf⟩ := choose_lt hall
    have hlen : ((List.range len).map f).length = len := by simp
    refine ⟨some a, cap, (List.range len).map f, by rw [hlen], ⟨rfl, ?_, fun hn => ⟨a, rfl, fun j p hj => ?_⟩⟩, by omega, by omega, fun p hp => ?_⟩
    · rw [hlen]
      unfold maxLen at hm
      omega
    · have hjl : j < len := by
        have := (List.getElem?_eq_some_iff.1 hj).1
        omega
      have hp : p = f j := by
        simp [hjl] at hj
        exact hj.symm
      subst hp
      obtain ⟨hc, _⟩ := hf j hjl
      obtain ⟨_, _, hat⟩ := World.cells?_some hc
      refine ⟨_, rfl, k77_mk w (f j), fun i u hu => ?_⟩
      have hi2 : i < 2 := by
        have := (List.getElem?_eq_some_iff.1 hu).1
        simpa using this
      have := hat i hi2
      rw [Go.Deep.add_add, hu] at this
      exact this
    · obtain ⟨j, hj, rfl⟩ := List.mem_map.1 hp
      exact (hf j (List.mem_range.1 hj)).2

set_option maxRecDepth 100000 in
/-- An argument of type laws.Grid. -/
theorem open_grid {r : Reach} {b0 : Nat} {v : Value} {d : DataW H} {ps : List MemPlace} (hval : Value.okWide Try.prog w r b0 24 v) (h : DataW.Trod enc Try.prog w base spare held 24 v d ps) :
    ∃ (n : Int) (A : Option Addr) (c : Nat) (l : List S77), v = .agg #[.int .i64 n, .slice A l.length c] ∧ W64 n ∧ Kd.C k77 w A l.length l ∧ l.length ≤ c ∧ l.length ≤ maxLen ∧ ∀ p ∈ l, W64 p.f0 ∧ W64 p.f1 := by
  obtain ⟨v0, v1, y0, y1, n, rfl, _, _, h0, h1⟩ := open_agg2 Try.underlying24 (by kernel_rfl) (by kernel_rfl) hval h
  obtain ⟨a, e0, _, w0⟩ := DataW.trod_int Try.underlying3 h0
  obtain ⟨A, c, l, e1, hC, hl, hm, hw⟩ := open_cells h1
  simp at e0 e1
  exact ⟨a, A, c, l, by rw [e0, e1], w0, hC, hl, hm, hw⟩

set_option maxRecDepth 100000 in
/-- An argument of type laws.Cell. -/
theorem open_cell {r : Reach} {b0 : Nat} {v : Value} {d : DataW H} {ps : List MemPlace} (hval : Value.okWide Try.prog w r b0 77 v) (h : DataW.Trod enc Try.prog w base spare held 77 v d ps) :
    ∃ (a b : Int), v = .agg #[.int .i64 a, .int .i64 b] ∧ W64 a ∧ W64 b := by
  obtain ⟨v0, v1, y0, y1, n, rfl, _, _, h0, h1⟩ := open_agg2 Try.underlying77 (by kernel_rfl) (by kernel_rfl) hval h
  obtain ⟨a, e0, _, w0⟩ := DataW.trod_int Try.underlying3 h0
  obtain ⟨b, e1, _, w1⟩ := DataW.trod_int Try.underlying3 h1
  simp at e0 e1
  exact ⟨a, b, by rw [e0, e1], w0, w1⟩
end
end Go.Proofs.Ytpjdhpkfenohgaa.P
