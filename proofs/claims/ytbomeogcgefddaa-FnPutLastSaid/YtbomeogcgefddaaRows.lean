/-
  No cell of these rows narrows 'for every input' (looked for: loops, veiled, ifaces, maps, wideKeys, modest, calm, conditions, laid).
  DERIVED. THE GIVEN ROWS OF THIS SEAT. 9 by the template 'for every input the law returns true; each argument reads behind the call as it read before'; 0 by the template 'total and deterministic' (their statements: YtbomeogcgefddaaTotals.lean).
  GIVEN WITH THE SEED: the statements are not yours to turn. If you find one false, say at which input.
  Laid BY PROGRAM, IN A SANDBOX (cutbox-rows.mjs): the forced cells as the released guide's own fill.sh prints them over the translation 66c4beff9068946d… (all of the seat's roots in one cut). By AI agents, Wed Nov 11 2026. No macro, syntax, notation, axiom, sorry.
-/
import Derived.Test.YtbomeogcgefddaaChecked
import GoSem.Claim
import GoSem.ClaimJoined
import GoSem.ClaimMapViews
import Derived.JoinedTies
import Derived.KernelRfl
namespace Go.Proofs.Ytbomeogcgefddaa
/- THE CELL 'sum', in the pinned program and in every row, IS THE sha256 OF THE DUMP (.gsa) THAT YtbomeogcgefddaaProg.lean LOADS. Nothing in Lean hashes anything: it is a label: what it is worth is what the hold of that sum in a sandbox is worth. -/
noncomputable def Try.pinned : Pinned := { name := "ytbomeogcgefddaa", sum := "66c4beff9068946da225e4e6fa9e9914e492a1d96359381e074c0e2a0edb6ae4", checked := Try.checked }
namespace Rows
def none {H : Type} : Left H := { results := [], args := [] }

/-- 'laws.FnSightSides': WHATEVER THE INPUT: true; the input reads as it did. -/
def fnSightSidesSpec : ChangeSpec := { name := "fnSightSides", fn := fun _ => fun
  | [d] => { results := [.lit (.bool true)], args := [d] }
  | _ => none }
def fnSightSidesRow : OpenClaim := { program := "ytbomeogcgefddaa", sum := "66c4beff9068946da225e4e6fa9e9914e492a1d96359381e074c0e2a0edb6ae4", func := "loop.example/lucarne/laws.FnSightSides", spec := "fnSightSides", unfollowed := true, recurses := true, apart := false }
def FnSightSidesSaid : Prop := fnSightSidesRow.holds Try.pinned (OpenSpec.ofChange fnSightSidesSpec)

/-- ITS FALSE NEIGHBOUR: 'it returns false'. Refute it at one input. -/
def fnSightSidesWrong : ChangeSpec := { name := "fnSightSides", fn := fun _ => fun
  | [d] => { results := [.lit (.bool false)], args := [d] }
  | _ => none }
def FnSightSidesWrongFalsely : Prop := fnSightSidesRow.holds Try.pinned (OpenSpec.ofChange fnSightSidesWrong)

/-- 'laws.FnRayBack': WHATEVER THE INPUT: true; the input reads as it did. -/
def fnRayBackSpec : ChangeSpec := { name := "fnRayBack", fn := fun _ => fun
  | [d] => { results := [.lit (.bool true)], args := [d] }
  | _ => none }
def fnRayBackRow : OpenClaim := { program := "ytbomeogcgefddaa", sum := "66c4beff9068946da225e4e6fa9e9914e492a1d96359381e074c0e2a0edb6ae4", func := "loop.example/lucarne/laws.FnRayBack", spec := "fnRayBack", unfollowed := true, recurses := true, apart := false }
def FnRayBackSaid : Prop := fnRayBackRow.holds Try.pinned (OpenSpec.ofChange fnRayBackSpec)

/-- ITS FALSE NEIGHBOUR: 'it returns false'. Refute it at one input. -/
def fnRayBackWrong : ChangeSpec := { name := "fnRayBack", fn := fun _ => fun
  | [d] => { results := [.lit (.bool false)], args := [d] }
  | _ => none }
def FnRayBackWrongFalsely : Prop := fnRayBackRow.holds Try.pinned (OpenSpec.ofChange fnRayBackWrong)

/-- 'laws.FnRayEdge': WHATEVER THE INPUT: true; the input reads as it did. -/
def fnRayEdgeSpec : ChangeSpec := { name := "fnRayEdge", fn := fun _ => fun
  | [d] => { results := [.lit (.bool true)], args := [d] }
  | _ => none }
def fnRayEdgeRow : OpenClaim := { program := "ytbomeogcgefddaa", sum := "66c4beff9068946da225e4e6fa9e9914e492a1d96359381e074c0e2a0edb6ae4", func := "loop.example/lucarne/laws.FnRayEdge", spec := "fnRayEdge", unfollowed := true, recurses := true, apart := false }
def FnRayEdgeSaid : Prop := fnRayEdgeRow.holds Try.pinned (OpenSpec.ofChange fnRayEdgeSpec)

/-- ITS FALSE NEIGHBOUR: 'it returns false'. Refute it at one input. -/
def fnRayEdgeWrong : ChangeSpec := { name := "fnRayEdge", fn := fun _ => fun
  | [d] => { results := [.lit (.bool false)], args := [d] }
  | _ => none }
def FnRayEdgeWrongFalsely : Prop := fnRayEdgeRow.holds Try.pinned (OpenSpec.ofChange fnRayEdgeWrong)

/-- 'laws.FnRayRound': WHATEVER THE INPUT: true; the input reads as it did. -/
def fnRayRoundSpec : ChangeSpec := { name := "fnRayRound", fn := fun _ => fun
  | [d] => { results := [.lit (.bool true)], args := [d] }
  | _ => none }
def fnRayRoundRow : OpenClaim := { program := "ytbomeogcgefddaa", sum := "66c4beff9068946da225e4e6fa9e9914e492a1d96359381e074c0e2a0edb6ae4", func := "loop.example/lucarne/laws.FnRayRound", spec := "fnRayRound", unfollowed := true, recurses := true, apart := false }
def FnRayRoundSaid : Prop := fnRayRoundRow.holds Try.pinned (OpenSpec.ofChange fnRayRoundSpec)

/-- ITS FALSE NEIGHBOUR: 'it returns false'. Refute it at one input. -/
def fnRayRoundWrong : ChangeSpec := { name := "fnRayRound", fn := fun _ => fun
  | [d] => { results := [.lit (.bool false)], args := [d] }
  | _ => none }
def FnRayRoundWrongFalsely : Prop := fnRayRoundRow.holds Try.pinned (OpenSpec.ofChange fnRayRoundWrong)

/-- 'laws.FnSightCells': WHATEVER THE INPUT: true; the input reads as it did. -/
def fnSightCellsSpec : ChangeSpec := { name := "fnSightCells", fn := fun _ => fun
  | [d] => { results := [.lit (.bool true)], args := [d] }
  | _ => none }
def fnSightCellsRow : OpenClaim := { program := "ytbomeogcgefddaa", sum := "66c4beff9068946da225e4e6fa9e9914e492a1d96359381e074c0e2a0edb6ae4", func := "loop.example/lucarne/laws.FnSightCells", spec := "fnSightCells", unfollowed := true, recurses := true, apart := false }
def FnSightCellsSaid : Prop := fnSightCellsRow.holds Try.pinned (OpenSpec.ofChange fnSightCellsSpec)

/-- ITS FALSE NEIGHBOUR: 'it returns false'. Refute it at one input. -/
def fnSightCellsWrong : ChangeSpec := { name := "fnSightCells", fn := fun _ => fun
  | [d] => { results := [.lit (.bool false)], args := [d] }
  | _ => none }
def FnSightCellsWrongFalsely : Prop := fnSightCellsRow.holds Try.pinned (OpenSpec.ofChange fnSightCellsWrong)

/-- 'laws.FnSightBack': WHATEVER THE INPUT: true; the input reads as it did. -/
def fnSightBackSpec : ChangeSpec := { name := "fnSightBack", fn := fun _ => fun
  | [d] => { results := [.lit (.bool true)], args := [d] }
  | _ => none }
def fnSightBackRow : OpenClaim := { program := "ytbomeogcgefddaa", sum := "66c4beff9068946da225e4e6fa9e9914e492a1d96359381e074c0e2a0edb6ae4", func := "loop.example/lucarne/laws.FnSightBack", spec := "fnSightBack", unfollowed := true, recurses := true, apart := false }
def FnSightBackSaid : Prop := fnSightBackRow.holds Try.pinned (OpenSpec.ofChange fnSightBackSpec)

/-- ITS FALSE NEIGHBOUR: 'it returns false'. Refute it at one input. -/
def fnSightBackWrong : ChangeSpec := { name := "fnSightBack", fn := fun _ => fun
  | [d] => { results := [.lit (.bool false)], args := [d] }
  | _ => none }
def FnSightBackWrongFalsely : Prop := fnSightBackRow.holds Try.pinned (OpenSpec.ofChange fnSightBackWrong)

/-- 'laws.FnSightOut': WHATEVER THE INPUT: true; the input reads as it did. -/
def fnSightOutSpec : ChangeSpec := { name := "fnSightOut", fn := fun _ => fun
  | [d] => { results := [.lit (.bool true)], args := [d] }
  | _ => none }
def fnSightOutRow : OpenClaim := { program := "ytbomeogcgefddaa", sum := "66c4beff9068946da225e4e6fa9e9914e492a1d96359381e074c0e2a0edb6ae4", func := "loop.example/lucarne/laws.FnSightOut", spec := "fnSightOut", unfollowed := true, recurses := true, apart := false }
def FnSightOutSaid : Prop := fnSightOutRow.holds Try.pinned (OpenSpec.ofChange fnSightOutSpec)

/-- ITS FALSE NEIGHBOUR: 'it returns false'. Refute it at one input. -/
def fnSightOutWrong : ChangeSpec := { name := "fnSightOut", fn := fun _ => fun
  | [d] => { results := [.lit (.bool false)], args := [d] }
  | _ => none }
def FnSightOutWrongFalsely : Prop := fnSightOutRow.holds Try.pinned (OpenSpec.ofChange fnSightOutWrong)

/-- 'laws.FnPutThere': WHATEVER THE INPUT: true; the input reads as it did. -/
def fnPutThereSpec : ChangeSpec := { name := "fnPutThere", fn := fun _ => fun
  | [d] => { results := [.lit (.bool true)], args := [d] }
  | _ => none }
def fnPutThereRow : OpenClaim := { program := "ytbomeogcgefddaa", sum := "66c4beff9068946da225e4e6fa9e9914e492a1d96359381e074c0e2a0edb6ae4", func := "loop.example/lucarne/laws.FnPutThere", spec := "fnPutThere", apart := false }
def FnPutThereSaid : Prop := fnPutThereRow.holds Try.pinned (OpenSpec.ofChange fnPutThereSpec)

/-- ITS FALSE NEIGHBOUR: 'it returns false'. Refute it at one input. -/
def fnPutThereWrong : ChangeSpec := { name := "fnPutThere", fn := fun _ => fun
  | [d] => { results := [.lit (.bool false)], args := [d] }
  | _ => none }
def FnPutThereWrongFalsely : Prop := fnPutThereRow.holds Try.pinned (OpenSpec.ofChange fnPutThereWrong)

/-- 'laws.FnPutLast': WHATEVER THE INPUT: true; the input reads as it did. -/
def fnPutLastSpec : ChangeSpec := { name := "fnPutLast", fn := fun _ => fun
  | [d1, d2] => { results := [.lit (.bool true)], args := [d1, d2] }
  | _ => none }
def fnPutLastRow : OpenClaim := { program := "ytbomeogcgefddaa", sum := "66c4beff9068946da225e4e6fa9e9914e492a1d96359381e074c0e2a0edb6ae4", func := "loop.example/lucarne/laws.FnPutLast", spec := "fnPutLast", apart := false }
def FnPutLastSaid : Prop := fnPutLastRow.holds Try.pinned (OpenSpec.ofChange fnPutLastSpec)

/-- ITS FALSE NEIGHBOUR: 'it returns false'. Refute it at one input. -/
def fnPutLastWrong : ChangeSpec := { name := "fnPutLast", fn := fun _ => fun
  | [d1, d2] => { results := [.lit (.bool false)], args := [d1, d2] }
  | _ => none }
def FnPutLastWrongFalsely : Prop := fnPutLastRow.holds Try.pinned (OpenSpec.ofChange fnPutLastWrong)

/- THE SECOND FORM. 'bulk': how many values and letters a reading holds, each counted each time it is reached (what is shared counts as often as it is met; a slice's spare places count too). A statement '..UptoSaid' is the law's where the arguments, and the package variables that the reading takes, are together of bulk at most 1048576: NARROWER than '..Said'. Prove '..Said' where nothing that the law and all that it calls make is longer than what came in: it says more and counts as full. Else prove '..UptoSaid'. A law counts once. -/
mutual
def uptoBulk {H : Type} : DataW H → Nat
  | .lit (.string bytes) => bytes.length + 1
  | .lit _ => 1
  | .nil => 1
  | .ptr d => uptoBulk d + 1
  | .slice elems spare => uptoBulkAll elems + uptoBulkAll spare + 1
  | .agg parts => uptoBulkAll parts + 1
  | .iface _ d => uptoBulk d + 1
  | .map entries => uptoBulkEntries entries + 1
  | .held _ => 1
def uptoBulkAll {H : Type} : List (DataW H) → Nat
  | [] => 0
  | d :: r => uptoBulk d + uptoBulkAll r
def uptoBulkEntries {H : Type} : List (Lit × DataW H) → Nat
  | [] => 0
  | x :: r => uptoBulkEntry x + uptoBulkEntries r
def uptoBulkEntry {H : Type} : Lit × DataW H → Nat
  | (.string bytes, d) => bytes.length + uptoBulk d + 1
  | (_, d) => uptoBulk d + 1
 end
def uptoSmall : (H : Type) → List (DataW H) → Bool := fun _ ds => decide (uptoBulkAll ds ≤ 1048576)
def OpenSpec.upto (s : _root_.Go.ChangeSpec) : _root_.Go.OpenSpec := { _root_.Go.OpenSpec.ofChange s with cond := some uptoSmall }

/-- 'laws.FnSightSides', WHERE WHAT IT READS IS OF BULK AT MOST 1048576: true; the input reads as it did. -/
def fnSightSidesUptoRow : OpenClaim := { program := "ytbomeogcgefddaa", sum := "66c4beff9068946da225e4e6fa9e9914e492a1d96359381e074c0e2a0edb6ae4", func := "loop.example/lucarne/laws.FnSightSides", spec := "fnSightSides", unfollowed := true, recurses := true, apart := false, narrowed := true }
def FnSightSidesUptoSaid : Prop := fnSightSidesUptoRow.holds Try.pinned (OpenSpec.upto fnSightSidesSpec)

/-- 'laws.FnRayBack', WHERE WHAT IT READS IS OF BULK AT MOST 1048576: true; the input reads as it did. -/
def fnRayBackUptoRow : OpenClaim := { program := "ytbomeogcgefddaa", sum := "66c4beff9068946da225e4e6fa9e9914e492a1d96359381e074c0e2a0edb6ae4", func := "loop.example/lucarne/laws.FnRayBack", spec := "fnRayBack", unfollowed := true, recurses := true, apart := false, narrowed := true }
def FnRayBackUptoSaid : Prop := fnRayBackUptoRow.holds Try.pinned (OpenSpec.upto fnRayBackSpec)

/-- 'laws.FnRayEdge', WHERE WHAT IT READS IS OF BULK AT MOST 1048576: true; the input reads as it did. -/
def fnRayEdgeUptoRow : OpenClaim := { program := "ytbomeogcgefddaa", sum := "66c4beff9068946da225e4e6fa9e9914e492a1d96359381e074c0e2a0edb6ae4", func := "loop.example/lucarne/laws.FnRayEdge", spec := "fnRayEdge", unfollowed := true, recurses := true, apart := false, narrowed := true }
def FnRayEdgeUptoSaid : Prop := fnRayEdgeUptoRow.holds Try.pinned (OpenSpec.upto fnRayEdgeSpec)

/-- 'laws.FnRayRound', WHERE WHAT IT READS IS OF BULK AT MOST 1048576: true; the input reads as it did. -/
def fnRayRoundUptoRow : OpenClaim := { program := "ytbomeogcgefddaa", sum := "66c4beff9068946da225e4e6fa9e9914e492a1d96359381e074c0e2a0edb6ae4", func := "loop.example/lucarne/laws.FnRayRound", spec := "fnRayRound", unfollowed := true, recurses := true, apart := false, narrowed := true }
def FnRayRoundUptoSaid : Prop := fnRayRoundUptoRow.holds Try.pinned (OpenSpec.upto fnRayRoundSpec)

/-- 'laws.FnSightCells', WHERE WHAT IT READS IS OF BULK AT MOST 1048576: true; the input reads as it did. -/
def fnSightCellsUptoRow : OpenClaim := { program := "ytbomeogcgefddaa", sum := "66c4beff9068946da225e4e6fa9e9914e492a1d96359381e074c0e2a0edb6ae4", func := "loop.example/lucarne/laws.FnSightCells", spec := "fnSightCells", unfollowed := true, recurses := true, apart := false, narrowed := true }
def FnSightCellsUptoSaid : Prop := fnSightCellsUptoRow.holds Try.pinned (OpenSpec.upto fnSightCellsSpec)

/-- 'laws.FnSightBack', WHERE WHAT IT READS IS OF BULK AT MOST 1048576: true; the input reads as it did. -/
def fnSightBackUptoRow : OpenClaim := { program := "ytbomeogcgefddaa", sum := "66c4beff9068946da225e4e6fa9e9914e492a1d96359381e074c0e2a0edb6ae4", func := "loop.example/lucarne/laws.FnSightBack", spec := "fnSightBack", unfollowed := true, recurses := true, apart := false, narrowed := true }
def FnSightBackUptoSaid : Prop := fnSightBackUptoRow.holds Try.pinned (OpenSpec.upto fnSightBackSpec)

/-- 'laws.FnSightOut', WHERE WHAT IT READS IS OF BULK AT MOST 1048576: true; the input reads as it did. -/
def fnSightOutUptoRow : OpenClaim := { program := "ytbomeogcgefddaa", sum := "66c4beff9068946da225e4e6fa9e9914e492a1d96359381e074c0e2a0edb6ae4", func := "loop.example/lucarne/laws.FnSightOut", spec := "fnSightOut", unfollowed := true, recurses := true, apart := false, narrowed := true }
def FnSightOutUptoSaid : Prop := fnSightOutUptoRow.holds Try.pinned (OpenSpec.upto fnSightOutSpec)

/-- 'laws.FnPutThere', WHERE WHAT IT READS IS OF BULK AT MOST 1048576: true; the input reads as it did. -/
def fnPutThereUptoRow : OpenClaim := { program := "ytbomeogcgefddaa", sum := "66c4beff9068946da225e4e6fa9e9914e492a1d96359381e074c0e2a0edb6ae4", func := "loop.example/lucarne/laws.FnPutThere", spec := "fnPutThere", apart := false, narrowed := true }
def FnPutThereUptoSaid : Prop := fnPutThereUptoRow.holds Try.pinned (OpenSpec.upto fnPutThereSpec)

/-- 'laws.FnPutLast', WHERE WHAT IT READS IS OF BULK AT MOST 1048576: true; the input reads as it did. -/
def fnPutLastUptoRow : OpenClaim := { program := "ytbomeogcgefddaa", sum := "66c4beff9068946da225e4e6fa9e9914e492a1d96359381e074c0e2a0edb6ae4", func := "loop.example/lucarne/laws.FnPutLast", spec := "fnPutLast", apart := false, narrowed := true }
def FnPutLastUptoSaid : Prop := fnPutLastUptoRow.holds Try.pinned (OpenSpec.upto fnPutLastSpec)

end Rows
end Go.Proofs.Ytbomeogcgefddaa
