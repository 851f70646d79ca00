/-
  No cell of these rows narrows 'for every input' (looked for: loops, veiled, ifaces, maps, wideKeys, modest, calm, conditions, laid).
  DERIVED. THE GIVEN ROWS OF THIS SEAT. 7 by the template 'for every input the law returns true; each argument reads behind the call as it read before'; 0 by the template 'total and deterministic' (their statements: YteapnipnoadejaaTotals.lean).
  GIVEN WITH THE SEED: the statements are not yours to turn. If you find one false, say at which input.
  Laid BY PROGRAM, IN A SANDBOX (cutbox-rows.mjs): the forced cells as the released guide's own fill.sh prints them over the translation 0ea3e675e1f82e91… (all of the seat's roots in one cut). By AI agents, Wed Nov 11 2026. No macro, syntax, notation, axiom, sorry.
-/
import Derived.Test.YteapnipnoadejaaChecked
import GoSem.Claim
import GoSem.ClaimJoined
import GoSem.ClaimMapViews
import Derived.JoinedTies
import Derived.KernelRfl
namespace Go.Proofs.Yteapnipnoadejaa
/- THE CELL 'sum', in the pinned program and in every row, IS THE sha256 OF THE DUMP (.gsa) THAT YteapnipnoadejaaProg.lean LOADS. Nothing in Lean hashes anything: it is a label: what it is worth is what the hold of that sum in a sandbox is worth. -/
noncomputable def Try.pinned : Pinned := { name := "yteapnipnoadejaa", sum := "0ea3e675e1f82e910a31516ab0c56ad8a1c4036580b7c64ef6d35170167cee96", checked := Try.checked }
namespace Rows
def none {H : Type} : Left H := { results := [], args := [] }

/-- 'laws.FnTrailClear': WHATEVER THE INPUT: true; the input reads as it did. -/
def fnTrailClearSpec : ChangeSpec := { name := "fnTrailClear", fn := fun _ => fun
  | [d] => { results := [.lit (.bool true)], args := [d] }
  | _ => none }
def fnTrailClearRow : OpenClaim := { program := "yteapnipnoadejaa", sum := "0ea3e675e1f82e910a31516ab0c56ad8a1c4036580b7c64ef6d35170167cee96", func := "loop.example/lucarne/laws.FnTrailClear", spec := "fnTrailClear", unfollowed := true, recurses := true, apart := false }
def FnTrailClearSaid : Prop := fnTrailClearRow.holds Try.pinned (OpenSpec.ofChange fnTrailClearSpec)

/-- ITS FALSE NEIGHBOUR: 'it returns false'. Refute it at one input. -/
def fnTrailClearWrong : ChangeSpec := { name := "fnTrailClear", fn := fun _ => fun
  | [d] => { results := [.lit (.bool false)], args := [d] }
  | _ => none }
def FnTrailClearWrongFalsely : Prop := fnTrailClearRow.holds Try.pinned (OpenSpec.ofChange fnTrailClearWrong)

/-- 'laws.FnTrailPairs': WHATEVER THE INPUT: true; the input reads as it did. -/
def fnTrailPairsSpec : ChangeSpec := { name := "fnTrailPairs", fn := fun _ => fun
  | [d] => { results := [.lit (.bool true)], args := [d] }
  | _ => none }
def fnTrailPairsRow : OpenClaim := { program := "yteapnipnoadejaa", sum := "0ea3e675e1f82e910a31516ab0c56ad8a1c4036580b7c64ef6d35170167cee96", func := "loop.example/lucarne/laws.FnTrailPairs", spec := "fnTrailPairs", unfollowed := true, recurses := true, apart := false }
def FnTrailPairsSaid : Prop := fnTrailPairsRow.holds Try.pinned (OpenSpec.ofChange fnTrailPairsSpec)

/-- ITS FALSE NEIGHBOUR: 'it returns false'. Refute it at one input. -/
def fnTrailPairsWrong : ChangeSpec := { name := "fnTrailPairs", fn := fun _ => fun
  | [d] => { results := [.lit (.bool false)], args := [d] }
  | _ => none }
def FnTrailPairsWrongFalsely : Prop := fnTrailPairsRow.holds Try.pinned (OpenSpec.ofChange fnTrailPairsWrong)

/-- 'laws.FnTrailStraight': WHATEVER THE INPUT: true; the input reads as it did. -/
def fnTrailStraightSpec : ChangeSpec := { name := "fnTrailStraight", fn := fun _ => fun
  | [d] => { results := [.lit (.bool true)], args := [d] }
  | _ => none }
def fnTrailStraightRow : OpenClaim := { program := "yteapnipnoadejaa", sum := "0ea3e675e1f82e910a31516ab0c56ad8a1c4036580b7c64ef6d35170167cee96", func := "loop.example/lucarne/laws.FnTrailStraight", spec := "fnTrailStraight", unfollowed := true, recurses := true, apart := false }
def FnTrailStraightSaid : Prop := fnTrailStraightRow.holds Try.pinned (OpenSpec.ofChange fnTrailStraightSpec)

/-- ITS FALSE NEIGHBOUR: 'it returns false'. Refute it at one input. -/
def fnTrailStraightWrong : ChangeSpec := { name := "fnTrailStraight", fn := fun _ => fun
  | [d] => { results := [.lit (.bool false)], args := [d] }
  | _ => none }
def FnTrailStraightWrongFalsely : Prop := fnTrailStraightRow.holds Try.pinned (OpenSpec.ofChange fnTrailStraightWrong)

/-- 'laws.FnTrailStep': WHATEVER THE INPUT: true; the input reads as it did. -/
def fnTrailStepSpec : ChangeSpec := { name := "fnTrailStep", fn := fun _ => fun
  | [d] => { results := [.lit (.bool true)], args := [d] }
  | _ => none }
def fnTrailStepRow : OpenClaim := { program := "yteapnipnoadejaa", sum := "0ea3e675e1f82e910a31516ab0c56ad8a1c4036580b7c64ef6d35170167cee96", func := "loop.example/lucarne/laws.FnTrailStep", spec := "fnTrailStep", unfollowed := true, recurses := true, apart := false }
def FnTrailStepSaid : Prop := fnTrailStepRow.holds Try.pinned (OpenSpec.ofChange fnTrailStepSpec)

/-- ITS FALSE NEIGHBOUR: 'it returns false'. Refute it at one input. -/
def fnTrailStepWrong : ChangeSpec := { name := "fnTrailStep", fn := fun _ => fun
  | [d] => { results := [.lit (.bool false)], args := [d] }
  | _ => none }
def FnTrailStepWrongFalsely : Prop := fnTrailStepRow.holds Try.pinned (OpenSpec.ofChange fnTrailStepWrong)

/-- 'laws.FnTrailHalves': WHATEVER THE INPUT: true; the input reads as it did. -/
def fnTrailHalvesSpec : ChangeSpec := { name := "fnTrailHalves", fn := fun _ => fun
  | [d] => { results := [.lit (.bool true)], args := [d] }
  | _ => none }
def fnTrailHalvesRow : OpenClaim := { program := "yteapnipnoadejaa", sum := "0ea3e675e1f82e910a31516ab0c56ad8a1c4036580b7c64ef6d35170167cee96", func := "loop.example/lucarne/laws.FnTrailHalves", spec := "fnTrailHalves", unfollowed := true, recurses := true, apart := false }
def FnTrailHalvesSaid : Prop := fnTrailHalvesRow.holds Try.pinned (OpenSpec.ofChange fnTrailHalvesSpec)

/-- ITS FALSE NEIGHBOUR: 'it returns false'. Refute it at one input. -/
def fnTrailHalvesWrong : ChangeSpec := { name := "fnTrailHalves", fn := fun _ => fun
  | [d] => { results := [.lit (.bool false)], args := [d] }
  | _ => none }
def FnTrailHalvesWrongFalsely : Prop := fnTrailHalvesRow.holds Try.pinned (OpenSpec.ofChange fnTrailHalvesWrong)

/-- 'laws.FnTrailLamp': WHATEVER THE INPUT: true; the input reads as it did. -/
def fnTrailLampSpec : ChangeSpec := { name := "fnTrailLamp", fn := fun _ => fun
  | [d] => { results := [.lit (.bool true)], args := [d] }
  | _ => none }
def fnTrailLampRow : OpenClaim := { program := "yteapnipnoadejaa", sum := "0ea3e675e1f82e910a31516ab0c56ad8a1c4036580b7c64ef6d35170167cee96", func := "loop.example/lucarne/laws.FnTrailLamp", spec := "fnTrailLamp", unfollowed := true, recurses := true, apart := false }
def FnTrailLampSaid : Prop := fnTrailLampRow.holds Try.pinned (OpenSpec.ofChange fnTrailLampSpec)

/-- ITS FALSE NEIGHBOUR: 'it returns false'. Refute it at one input. -/
def fnTrailLampWrong : ChangeSpec := { name := "fnTrailLamp", fn := fun _ => fun
  | [d] => { results := [.lit (.bool false)], args := [d] }
  | _ => none }
def FnTrailLampWrongFalsely : Prop := fnTrailLampRow.holds Try.pinned (OpenSpec.ofChange fnTrailLampWrong)

/-- 'laws.FnTrailBack': WHATEVER THE INPUT: true; the input reads as it did. -/
def fnTrailBackSpec : ChangeSpec := { name := "fnTrailBack", fn := fun _ => fun
  | [d] => { results := [.lit (.bool true)], args := [d] }
  | _ => none }
def fnTrailBackRow : OpenClaim := { program := "yteapnipnoadejaa", sum := "0ea3e675e1f82e910a31516ab0c56ad8a1c4036580b7c64ef6d35170167cee96", func := "loop.example/lucarne/laws.FnTrailBack", spec := "fnTrailBack", unfollowed := true, recurses := true, apart := false }
def FnTrailBackSaid : Prop := fnTrailBackRow.holds Try.pinned (OpenSpec.ofChange fnTrailBackSpec)

/-- ITS FALSE NEIGHBOUR: 'it returns false'. Refute it at one input. -/
def fnTrailBackWrong : ChangeSpec := { name := "fnTrailBack", fn := fun _ => fun
  | [d] => { results := [.lit (.bool false)], args := [d] }
  | _ => none }
def FnTrailBackWrongFalsely : Prop := fnTrailBackRow.holds Try.pinned (OpenSpec.ofChange fnTrailBackWrong)

/- THE SECOND FORM. 'bulk': how many values and letters a reading holds, each counted each time it is reached (what is shared counts as often as it is met; a slice's spare places count too). A statement '..UptoSaid' is the law's where the arguments, and the package variables that the reading takes, are together of bulk at most 1048576: NARROWER than '..Said'. Prove '..Said' where nothing that the law and all that it calls make is longer than what came in: it says more and counts as full. Else prove '..UptoSaid'. A law counts once. -/
mutual
def uptoBulk {H : Type} : DataW H → Nat
  | .lit (.string bytes) => bytes.length + 1
  | .lit _ => 1
  | .nil => 1
  | .ptr d => uptoBulk d + 1
  | .slice elems spare => uptoBulkAll elems + uptoBulkAll spare + 1
  | .agg parts => uptoBulkAll parts + 1
  | .iface _ d => uptoBulk d + 1
  | .map entries => uptoBulkEntries entries + 1
  | .held _ => 1
def uptoBulkAll {H : Type} : List (DataW H) → Nat
  | [] => 0
  | d :: r => uptoBulk d + uptoBulkAll r
def uptoBulkEntries {H : Type} : List (Lit × DataW H) → Nat
  | [] => 0
  | x :: r => uptoBulkEntry x + uptoBulkEntries r
def uptoBulkEntry {H : Type} : Lit × DataW H → Nat
  | (.string bytes, d) => bytes.length + uptoBulk d + 1
  | (_, d) => uptoBulk d + 1
 end
def uptoSmall : (H : Type) → List (DataW H) → Bool := fun _ ds => decide (uptoBulkAll ds ≤ 1048576)
def OpenSpec.upto (s : _root_.Go.ChangeSpec) : _root_.Go.OpenSpec := { _root_.Go.OpenSpec.ofChange s with cond := some uptoSmall }

/-- 'laws.FnTrailClear', WHERE WHAT IT READS IS OF BULK AT MOST 1048576: true; the input reads as it did. -/
def fnTrailClearUptoRow : OpenClaim := { program := "yteapnipnoadejaa", sum := "0ea3e675e1f82e910a31516ab0c56ad8a1c4036580b7c64ef6d35170167cee96", func := "loop.example/lucarne/laws.FnTrailClear", spec := "fnTrailClear", unfollowed := true, recurses := true, apart := false, narrowed := true }
def FnTrailClearUptoSaid : Prop := fnTrailClearUptoRow.holds Try.pinned (OpenSpec.upto fnTrailClearSpec)

/-- 'laws.FnTrailPairs', WHERE WHAT IT READS IS OF BULK AT MOST 1048576: true; the input reads as it did. -/
def fnTrailPairsUptoRow : OpenClaim := { program := "yteapnipnoadejaa", sum := "0ea3e675e1f82e910a31516ab0c56ad8a1c4036580b7c64ef6d35170167cee96", func := "loop.example/lucarne/laws.FnTrailPairs", spec := "fnTrailPairs", unfollowed := true, recurses := true, apart := false, narrowed := true }
def FnTrailPairsUptoSaid : Prop := fnTrailPairsUptoRow.holds Try.pinned (OpenSpec.upto fnTrailPairsSpec)

/-- 'laws.FnTrailStraight', WHERE WHAT IT READS IS OF BULK AT MOST 1048576: true; the input reads as it did. -/
def fnTrailStraightUptoRow : OpenClaim := { program := "yteapnipnoadejaa", sum := "0ea3e675e1f82e910a31516ab0c56ad8a1c4036580b7c64ef6d35170167cee96", func := "loop.example/lucarne/laws.FnTrailStraight", spec := "fnTrailStraight", unfollowed := true, recurses := true, apart := false, narrowed := true }
def FnTrailStraightUptoSaid : Prop := fnTrailStraightUptoRow.holds Try.pinned (OpenSpec.upto fnTrailStraightSpec)

/-- 'laws.FnTrailStep', WHERE WHAT IT READS IS OF BULK AT MOST 1048576: true; the input reads as it did. -/
def fnTrailStepUptoRow : OpenClaim := { program := "yteapnipnoadejaa", sum := "0ea3e675e1f82e910a31516ab0c56ad8a1c4036580b7c64ef6d35170167cee96", func := "loop.example/lucarne/laws.FnTrailStep", spec := "fnTrailStep", unfollowed := true, recurses := true, apart := false, narrowed := true }
def FnTrailStepUptoSaid : Prop := fnTrailStepUptoRow.holds Try.pinned (OpenSpec.upto fnTrailStepSpec)

/-- 'laws.FnTrailHalves', WHERE WHAT IT READS IS OF BULK AT MOST 1048576: true; the input reads as it did. -/
def fnTrailHalvesUptoRow : OpenClaim := { program := "yteapnipnoadejaa", sum := "0ea3e675e1f82e910a31516ab0c56ad8a1c4036580b7c64ef6d35170167cee96", func := "loop.example/lucarne/laws.FnTrailHalves", spec := "fnTrailHalves", unfollowed := true, recurses := true, apart := false, narrowed := true }
def FnTrailHalvesUptoSaid : Prop := fnTrailHalvesUptoRow.holds Try.pinned (OpenSpec.upto fnTrailHalvesSpec)

/-- 'laws.FnTrailLamp', WHERE WHAT IT READS IS OF BULK AT MOST 1048576: true; the input reads as it did. -/
def fnTrailLampUptoRow : OpenClaim := { program := "yteapnipnoadejaa", sum := "0ea3e675e1f82e910a31516ab0c56ad8a1c4036580b7c64ef6d35170167cee96", func := "loop.example/lucarne/laws.FnTrailLamp", spec := "fnTrailLamp", unfollowed := true, recurses := true, apart := false, narrowed := true }
def FnTrailLampUptoSaid : Prop := fnTrailLampUptoRow.holds Try.pinned (OpenSpec.upto fnTrailLampSpec)

/-- 'laws.FnTrailBack', WHERE WHAT IT READS IS OF BULK AT MOST 1048576: true; the input reads as it did. -/
def fnTrailBackUptoRow : OpenClaim := { program := "yteapnipnoadejaa", sum := "0ea3e675e1f82e910a31516ab0c56ad8a1c4036580b7c64ef6d35170167cee96", func := "loop.example/lucarne/laws.FnTrailBack", spec := "fnTrailBack", unfollowed := true, recurses := true, apart := false, narrowed := true }
def FnTrailBackUptoSaid : Prop := fnTrailBackUptoRow.holds Try.pinned (OpenSpec.upto fnTrailBackSpec)

end Rows
end Go.Proofs.Yteapnipnoadejaa
