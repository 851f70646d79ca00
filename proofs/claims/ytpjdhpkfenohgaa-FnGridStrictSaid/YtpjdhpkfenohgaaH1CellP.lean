/- PROVED: the program's cellTyped returns a cell as a value of its kind's type: told of a pair. No condition. -/
import Derived.Test.YtpjdhpkfenohgaaH1Cell
namespace Go.Proofs.Ytpjdhpkfenohgaa.P
open Go.RowKit Go.Proofs.YtpjdhpkfenohgaaW.PrintWords Go.Proofs.YtpjdhpkfenohgaaW.PrintLast Go.Proofs.YtpjdhpkfenohgaaW.PrintMore
/-- A cell as a value of its kind's type: its kind, and how bright it is. -/
abbrev IV := Int × Int
def typedP (p : IV) : Value := typedV p.1 p.2
def cellTypedP.f (a0_0 a0_1 : Int) : Option (IV × Bool) := some ((a0_0, a0_1), cellOkB a0_0 a0_1)
theorem cellTypedP.calls (a0_0 a0_1 : Int) (r1 : IV) (r2 : Bool) (w : World) (h : cellTypedP.f a0_0 a0_1 = some (r1, r2)) :
    Calls Try.prog 30 #[.agg #[.int .i64 a0_0, .int .i64 a0_1]] w fun e w' => e = .returned (.tuple #[typedP r1, .bool r2]) ∧ Below w.heap.size w w' := by
  obtain ⟨rfl, rfl⟩ := Prod.mk.inj (Option.some.inj h)
  exact impl_cellTyped.calls a0_0 a0_1 w
end Go.Proofs.Ytpjdhpkfenohgaa.P
