/- PROVED: an argument of type laws.Grid (or laws.Cell) that can be read as data is a width and a row of cells, as the printed contracts want them. No condition. -/
import Derived.Test.YtkcedchhokichaaPx0
import Derived.ProofKit
import Derived.Deep.Slices
import Derived.Lib.SmallJoins
import Derived.ChangeSame
namespace Go.Proofs.Ytkcedchhokichaa.P
open Go.RowKit Go.Proofs.YtkcedchhokichaaW.PrintWords Go.Proofs.YtkcedchhokichaaW.PrintLast Go.Proofs.YtkcedchhokichaaW.PrintMore
open Go.ChangeShapes Go.WideShapes Go.Deep Go.Joins
set_option linter.unusedVariables false
set_option linter.unusedSimpArgs false
section
variable {H : Type} {enc : TypeId × Value → H} {w : World} {base : Nat} {spare : Nat → Bool} {held : Bool}

/-- A whole number that Go's int holds. -/
def W64 (x : Int) : Prop := (Lit.int .i64 x).wf = true

theorem len2 {α : Type} : ∀ {l : List α}, l.length = 2 → ∃ a b, l = [a, b]
  | [a, b], _ => ⟨a, b, rfl⟩




set_option maxRecDepth 100000 in
/-- An argument of type laws.Cell. -/
theorem open_cell {r : Reach} {b0 : Nat} {v : Value} {d : DataW H} {ps : List MemPlace} (hval : Value.okWide Try.prog w r b0 26 v) (h : DataW.Trod enc Try.prog w base spare held 26 v d ps) :
    ∃ (a b : Int), v = .agg #[.int .i64 a, .int .i64 b] ∧ W64 a ∧ W64 b := by
  obtain ⟨v0, v1, y0, y1, n, rfl, _, _, h0, h1⟩ := open_agg2 Try.underlying26 (by kernel_rfl) (by kernel_rfl) hval h
  obtain ⟨a, e0, _, w0⟩ := DataW.trod_int Try.underlying3 h0
  obtain ⟨b, e1, _, w1⟩ := DataW.trod_int Try.underlying3 h1
  simp at e0 e1
  exact ⟨a, b, by rw [e0, e1], w0, w1⟩
end
end Go.Proofs.Ytkcedchhokichaa.P
