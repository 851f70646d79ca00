/- PROVED: the program's cellSign returns a valid cell's sign: told of a pair. Condition: the cell is valid. -/
import Derived.Test.YtpjdhpkfenohgaaH1CellP
import Derived.Test.YtpjdhpkfenohgaaH1Sign
namespace Go.Proofs.Ytpjdhpkfenohgaa.P
open Go.RowKit Go.Proofs.YtpjdhpkfenohgaaW.PrintWords Go.Proofs.YtpjdhpkfenohgaaW.PrintLast Go.Proofs.YtpjdhpkfenohgaaW.PrintMore
def cellSignP.f (a0 : IV) : Option Int := if cellOkB a0.1 a0.2 = true then some (signOf a0.1 a0.2) else none
theorem cellSignP.calls (a0 : IV) (r : Int) (w : World) (h : cellSignP.f a0 = some r) :
    Calls Try.prog 32 #[typedP a0] w fun e w' => e = .returned (.int .u8 r) ∧ Below w.heap.size w w' := by
  unfold cellSignP.f at h
  split at h
  · rename_i hok
    obtain rfl := Option.some.inj h
    exact impl_cellSign.calls a0.1 a0.2 hok w
  · cases h
end Go.Proofs.Ytpjdhpkfenohgaa.P
