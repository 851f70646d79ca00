/-
  No cell of these rows narrows 'for every input' (looked for: loops, veiled, ifaces, maps, wideKeys, modest, calm, conditions, laid).
  DERIVED. THE GIVEN ROWS OF THIS SEAT. 5 by the template 'for every input the law returns true; each argument reads behind the call as it read before'; 0 by the template 'total and deterministic' (their statements: YtkcedchhokichaaTotals.lean).
  GIVEN WITH THE SEED: the statements are not yours to turn. If you find one false, say at which input.
  Laid BY PROGRAM, IN A SANDBOX (cutbox-rows.mjs): the forced cells as the released guide's own fill.sh prints them over the translation cb80b6e057c7bb47… (all of the seat's roots in one cut). By AI agents, Wed Nov 11 2026. No macro, syntax, notation, axiom, sorry.
-/
import Derived.Test.YtkcedchhokichaaChecked
import GoSem.Claim
import GoSem.ClaimJoined
import GoSem.ClaimMapViews
import Derived.JoinedTies
import Derived.KernelRfl
namespace Go.Proofs.Ytkcedchhokichaa
/- THE CELL 'sum', in the pinned program and in every row, IS THE sha256 OF THE DUMP (.gsa) THAT YtkcedchhokichaaProg.lean LOADS. Nothing in Lean hashes anything: it is a label: what it is worth is what the hold of that sum in a sandbox is worth. -/
noncomputable def Try.pinned : Pinned := { name := "ytkcedchhokichaa", sum := "cb80b6e057c7bb479aed61095f995c9db3989586808f578c018077cd49b3710f", checked := Try.checked }
namespace Rows
def none {H : Type} : Left H := { results := [], args := [] }

/-- 'laws.FnExactConstants': WHATEVER THE INPUT: true; the input reads as it did. -/
def fnExactConstantsSpec : ChangeSpec := { name := "fnExactConstants", fn := fun _ => fun
  | [] => { results := [.lit (.bool true)], args := [] }
  | _ => none }
def fnExactConstantsRow : OpenClaim := { program := "ytkcedchhokichaa", sum := "cb80b6e057c7bb479aed61095f995c9db3989586808f578c018077cd49b3710f", func := "loop.example/lucarne/laws.FnExactConstants", spec := "fnExactConstants", apart := false }
def FnExactConstantsSaid : Prop := fnExactConstantsRow.holds Try.pinned (OpenSpec.ofChange fnExactConstantsSpec)

/-- ITS FALSE NEIGHBOUR: 'it returns false'. Refute it at one input. -/
def fnExactConstantsWrong : ChangeSpec := { name := "fnExactConstants", fn := fun _ => fun
  | [] => { results := [.lit (.bool false)], args := [] }
  | _ => none }
def FnExactConstantsWrongFalsely : Prop := fnExactConstantsRow.holds Try.pinned (OpenSpec.ofChange fnExactConstantsWrong)

/-- 'laws.FnExactDirTurn': WHATEVER THE INPUT: true; the input reads as it did. -/
def fnExactDirTurnSpec : ChangeSpec := { name := "fnExactDirTurn", fn := fun _ => fun
  | [d1, d2] => { results := [.lit (.bool true)], args := [d1, d2] }
  | _ => none }
def fnExactDirTurnRow : OpenClaim := { program := "ytkcedchhokichaa", sum := "cb80b6e057c7bb479aed61095f995c9db3989586808f578c018077cd49b3710f", func := "loop.example/lucarne/laws.FnExactDirTurn", spec := "fnExactDirTurn", apart := false }
def FnExactDirTurnSaid : Prop := fnExactDirTurnRow.holds Try.pinned (OpenSpec.ofChange fnExactDirTurnSpec)

/-- ITS FALSE NEIGHBOUR: 'it returns false'. Refute it at one input. -/
def fnExactDirTurnWrong : ChangeSpec := { name := "fnExactDirTurn", fn := fun _ => fun
  | [d1, d2] => { results := [.lit (.bool false)], args := [d1, d2] }
  | _ => none }
def FnExactDirTurnWrongFalsely : Prop := fnExactDirTurnRow.holds Try.pinned (OpenSpec.ofChange fnExactDirTurnWrong)

/-- 'laws.FnExactCellOk': WHATEVER THE INPUT: true; the input reads as it did. -/
def fnExactCellOkSpec : ChangeSpec := { name := "fnExactCellOk", fn := fun _ => fun
  | [d] => { results := [.lit (.bool true)], args := [d] }
  | _ => none }
def fnExactCellOkRow : OpenClaim := { program := "ytkcedchhokichaa", sum := "cb80b6e057c7bb479aed61095f995c9db3989586808f578c018077cd49b3710f", func := "loop.example/lucarne/laws.FnExactCellOk", spec := "fnExactCellOk", apart := false }
def FnExactCellOkSaid : Prop := fnExactCellOkRow.holds Try.pinned (OpenSpec.ofChange fnExactCellOkSpec)

/-- ITS FALSE NEIGHBOUR: 'it returns false'. Refute it at one input. -/
def fnExactCellOkWrong : ChangeSpec := { name := "fnExactCellOk", fn := fun _ => fun
  | [d] => { results := [.lit (.bool false)], args := [d] }
  | _ => none }
def FnExactCellOkWrongFalsely : Prop := fnExactCellOkRow.holds Try.pinned (OpenSpec.ofChange fnExactCellOkWrong)

/-- 'laws.FnDirAll': WHATEVER THE INPUT: true; the input reads as it did. -/
def fnDirAllSpec : ChangeSpec := { name := "fnDirAll", fn := fun _ => fun
  | [d] => { results := [.lit (.bool true)], args := [d] }
  | _ => none }
def fnDirAllRow : OpenClaim := { program := "ytkcedchhokichaa", sum := "cb80b6e057c7bb479aed61095f995c9db3989586808f578c018077cd49b3710f", func := "loop.example/lucarne/laws.FnDirAll", spec := "fnDirAll", apart := false }
def FnDirAllSaid : Prop := fnDirAllRow.holds Try.pinned (OpenSpec.ofChange fnDirAllSpec)

/-- ITS FALSE NEIGHBOUR: 'it returns false'. Refute it at one input. -/
def fnDirAllWrong : ChangeSpec := { name := "fnDirAll", fn := fun _ => fun
  | [d] => { results := [.lit (.bool false)], args := [d] }
  | _ => none }
def FnDirAllWrongFalsely : Prop := fnDirAllRow.holds Try.pinned (OpenSpec.ofChange fnDirAllWrong)

/-- 'laws.FnDirBack': WHATEVER THE INPUT: true; the input reads as it did. -/
def fnDirBackSpec : ChangeSpec := { name := "fnDirBack", fn := fun _ => fun
  | [d] => { results := [.lit (.bool true)], args := [d] }
  | _ => none }
def fnDirBackRow : OpenClaim := { program := "ytkcedchhokichaa", sum := "cb80b6e057c7bb479aed61095f995c9db3989586808f578c018077cd49b3710f", func := "loop.example/lucarne/laws.FnDirBack", spec := "fnDirBack", apart := false }
def FnDirBackSaid : Prop := fnDirBackRow.holds Try.pinned (OpenSpec.ofChange fnDirBackSpec)

/-- ITS FALSE NEIGHBOUR: 'it returns false'. Refute it at one input. -/
def fnDirBackWrong : ChangeSpec := { name := "fnDirBack", fn := fun _ => fun
  | [d] => { results := [.lit (.bool false)], args := [d] }
  | _ => none }
def FnDirBackWrongFalsely : Prop := fnDirBackRow.holds Try.pinned (OpenSpec.ofChange fnDirBackWrong)

/- THE SECOND FORM. 'bulk': how many values and letters a reading holds, each counted each time it is reached (what is shared counts as often as it is met; a slice's spare places count too). A statement '..UptoSaid' is the law's where the arguments, and the package variables that the reading takes, are together of bulk at most 1048576: NARROWER than '..Said'. Prove '..Said' where nothing that the law and all that it calls make is longer than what came in: it says more and counts as full. Else prove '..UptoSaid'. A law counts once. -/
mutual
def uptoBulk {H : Type} : DataW H → Nat
  | .lit (.string bytes) => bytes.length + 1
  | .lit _ => 1
  | .nil => 1
  | .ptr d => uptoBulk d + 1
  | .slice elems spare => uptoBulkAll elems + uptoBulkAll spare + 1
  | .agg parts => uptoBulkAll parts + 1
  | .iface _ d => uptoBulk d + 1
  | .map entries => uptoBulkEntries entries + 1
  | .held _ => 1
def uptoBulkAll {H : Type} : List (DataW H) → Nat
  | [] => 0
  | d :: r => uptoBulk d + uptoBulkAll r
def uptoBulkEntries {H : Type} : List (Lit × DataW H) → Nat
  | [] => 0
  | x :: r => uptoBulkEntry x + uptoBulkEntries r
def uptoBulkEntry {H : Type} : Lit × DataW H → Nat
  | (.string bytes, d) => bytes.length + uptoBulk d + 1
  | (_, d) => uptoBulk d + 1
 end
def uptoSmall : (H : Type) → List (DataW H) → Bool := fun _ ds => decide (uptoBulkAll ds ≤ 1048576)
def OpenSpec.upto (s : _root_.Go.ChangeSpec) : _root_.Go.OpenSpec := { _root_.Go.OpenSpec.ofChange s with cond := some uptoSmall }

/-- 'laws.FnExactConstants', WHERE WHAT IT READS IS OF BULK AT MOST 1048576: true; the input reads as it did. -/
def fnExactConstantsUptoRow : OpenClaim := { program := "ytkcedchhokichaa", sum := "cb80b6e057c7bb479aed61095f995c9db3989586808f578c018077cd49b3710f", func := "loop.example/lucarne/laws.FnExactConstants", spec := "fnExactConstants", apart := false, narrowed := true }
def FnExactConstantsUptoSaid : Prop := fnExactConstantsUptoRow.holds Try.pinned (OpenSpec.upto fnExactConstantsSpec)

/-- 'laws.FnExactDirTurn', WHERE WHAT IT READS IS OF BULK AT MOST 1048576: true; the input reads as it did. -/
def fnExactDirTurnUptoRow : OpenClaim := { program := "ytkcedchhokichaa", sum := "cb80b6e057c7bb479aed61095f995c9db3989586808f578c018077cd49b3710f", func := "loop.example/lucarne/laws.FnExactDirTurn", spec := "fnExactDirTurn", apart := false, narrowed := true }
def FnExactDirTurnUptoSaid : Prop := fnExactDirTurnUptoRow.holds Try.pinned (OpenSpec.upto fnExactDirTurnSpec)

/-- 'laws.FnExactCellOk', WHERE WHAT IT READS IS OF BULK AT MOST 1048576: true; the input reads as it did. -/
def fnExactCellOkUptoRow : OpenClaim := { program := "ytkcedchhokichaa", sum := "cb80b6e057c7bb479aed61095f995c9db3989586808f578c018077cd49b3710f", func := "loop.example/lucarne/laws.FnExactCellOk", spec := "fnExactCellOk", apart := false, narrowed := true }
def FnExactCellOkUptoSaid : Prop := fnExactCellOkUptoRow.holds Try.pinned (OpenSpec.upto fnExactCellOkSpec)

/-- 'laws.FnDirAll', WHERE WHAT IT READS IS OF BULK AT MOST 1048576: true; the input reads as it did. -/
def fnDirAllUptoRow : OpenClaim := { program := "ytkcedchhokichaa", sum := "cb80b6e057c7bb479aed61095f995c9db3989586808f578c018077cd49b3710f", func := "loop.example/lucarne/laws.FnDirAll", spec := "fnDirAll", apart := false, narrowed := true }
def FnDirAllUptoSaid : Prop := fnDirAllUptoRow.holds Try.pinned (OpenSpec.upto fnDirAllSpec)

/-- 'laws.FnDirBack', WHERE WHAT IT READS IS OF BULK AT MOST 1048576: true; the input reads as it did. -/
def fnDirBackUptoRow : OpenClaim := { program := "ytkcedchhokichaa", sum := "cb80b6e057c7bb479aed61095f995c9db3989586808f578c018077cd49b3710f", func := "loop.example/lucarne/laws.FnDirBack", spec := "fnDirBack", apart := false, narrowed := true }
def FnDirBackUptoSaid : Prop := fnDirBackUptoRow.holds Try.pinned (OpenSpec.upto fnDirBackSpec)

end Rows
end Go.Proofs.Ytkcedchhokichaa
