/- PROVED: the program's cellSign returns a valid cell's sign: told of a pair. Condition: the cell is valid. -/
import Derived.Test.YtbnofnamkgfadaaH1CellP
import Derived.Test.YtbnofnamkgfadaaH1Sign
namespace Go.Proofs.Ytbnofnamkgfadaa.P
open Go.RowKit Go.Proofs.YtbnofnamkgfadaaW.PrintWords Go.Proofs.YtbnofnamkgfadaaW.PrintLast Go.Proofs.YtbnofnamkgfadaaW.PrintMore
def cellSignP.f (a0 : IV) : Option Int := if cellOkB a0.1 a0.2 = true then some (signOf a0.1 a0.2) else none
theorem cellSignP.calls (a0 : IV) (r : Int) (w : World) (h : cellSignP.f a0 = some r) :
    Calls Try.prog 48 #[typedP a0] w fun e w' => e = .returned (.int .u8 r) ∧ Below w.heap.size w w' := by
  unfold cellSignP.f at h
  split at h
  · rename_i hok
    obtain rfl := Option.some.inj h
    exact impl_cellSign.calls a0.1 a0.2 hok w
  · cases h
end Go.Proofs.Ytbnofnamkgfadaa.P
