/-
  No cell of these rows narrows 'for every input' (looked for: loops, veiled, ifaces, maps, wideKeys, modest, calm, conditions, laid).
  DERIVED. THE GIVEN ROWS OF THIS SEAT. 12 by the template 'for every input the law returns true; each argument reads behind the call as it read before'; 0 by the template 'total and deterministic' (their statements: YtniaipoelaefnaaTotals.lean).
  GIVEN WITH THE SEED: the statements are not yours to turn. If you find one false, say at which input.
  Laid BY PROGRAM, IN A SANDBOX (cutbox-rows.mjs): the forced cells as the released guide's own fill.sh prints them over the translation 2697fa199a1472be… (all of the seat's roots in one cut). By AI agents, Wed Nov 11 2026. No macro, syntax, notation, axiom, sorry.
-/
import Derived.Test.YtniaipoelaefnaaChecked
import GoSem.Claim
import GoSem.ClaimJoined
import GoSem.ClaimMapViews
import Derived.JoinedTies
import Derived.KernelRfl
namespace Go.Proofs.Ytniaipoelaefnaa
/- THE CELL 'sum', in the pinned program and in every row, IS THE sha256 OF THE DUMP (.gsa) THAT YtniaipoelaefnaaProg.lean LOADS. Nothing in Lean hashes anything: it is a label: what it is worth is what the hold of that sum in a sandbox is worth. -/
noncomputable def Try.pinned : Pinned := { name := "ytniaipoelaefnaa", sum := "2697fa199a1472be145509439cd8a7678f400bff2c482ff816fefcd0a09cdffc", checked := Try.checked }
namespace Rows
def none {H : Type} : Left H := { results := [], args := [] }

/-- 'laws.FnExactGridOk': WHATEVER THE INPUT: true; the input reads as it did. -/
def fnExactGridOkSpec : ChangeSpec := { name := "fnExactGridOk", fn := fun _ => fun
  | [d] => { results := [.lit (.bool true)], args := [d] }
  | _ => none }
def fnExactGridOkRow : OpenClaim := { program := "ytniaipoelaefnaa", sum := "2697fa199a1472be145509439cd8a7678f400bff2c482ff816fefcd0a09cdffc", func := "loop.example/lucarne/laws.FnExactGridOk", spec := "fnExactGridOk", apart := false }
def FnExactGridOkSaid : Prop := fnExactGridOkRow.holds Try.pinned (OpenSpec.ofChange fnExactGridOkSpec)

/-- ITS FALSE NEIGHBOUR: 'it returns false'. Refute it at one input. -/
def fnExactGridOkWrong : ChangeSpec := { name := "fnExactGridOk", fn := fun _ => fun
  | [d] => { results := [.lit (.bool false)], args := [d] }
  | _ => none }
def FnExactGridOkWrongFalsely : Prop := fnExactGridOkRow.holds Try.pinned (OpenSpec.ofChange fnExactGridOkWrong)

/-- 'laws.FnExactSightMany': WHATEVER THE INPUT: true; the input reads as it did. -/
def fnExactSightManySpec : ChangeSpec := { name := "fnExactSightMany", fn := fun _ => fun
  | [d] => { results := [.lit (.bool true)], args := [d] }
  | _ => none }
def fnExactSightManyRow : OpenClaim := { program := "ytniaipoelaefnaa", sum := "2697fa199a1472be145509439cd8a7678f400bff2c482ff816fefcd0a09cdffc", func := "loop.example/lucarne/laws.FnExactSightMany", spec := "fnExactSightMany", apart := false }
def FnExactSightManySaid : Prop := fnExactSightManyRow.holds Try.pinned (OpenSpec.ofChange fnExactSightManySpec)

/-- ITS FALSE NEIGHBOUR: 'it returns false'. Refute it at one input. -/
def fnExactSightManyWrong : ChangeSpec := { name := "fnExactSightMany", fn := fun _ => fun
  | [d] => { results := [.lit (.bool false)], args := [d] }
  | _ => none }
def FnExactSightManyWrongFalsely : Prop := fnExactSightManyRow.holds Try.pinned (OpenSpec.ofChange fnExactSightManyWrong)

/-- 'laws.FnExactSightFlip': WHATEVER THE INPUT: true; the input reads as it did. -/
def fnExactSightFlipSpec : ChangeSpec := { name := "fnExactSightFlip", fn := fun _ => fun
  | [d1, d2] => { results := [.lit (.bool true)], args := [d1, d2] }
  | _ => none }
def fnExactSightFlipRow : OpenClaim := { program := "ytniaipoelaefnaa", sum := "2697fa199a1472be145509439cd8a7678f400bff2c482ff816fefcd0a09cdffc", func := "loop.example/lucarne/laws.FnExactSightFlip", spec := "fnExactSightFlip", apart := false }
def FnExactSightFlipSaid : Prop := fnExactSightFlipRow.holds Try.pinned (OpenSpec.ofChange fnExactSightFlipSpec)

/-- ITS FALSE NEIGHBOUR: 'it returns false'. Refute it at one input. -/
def fnExactSightFlipWrong : ChangeSpec := { name := "fnExactSightFlip", fn := fun _ => fun
  | [d1, d2] => { results := [.lit (.bool false)], args := [d1, d2] }
  | _ => none }
def FnExactSightFlipWrongFalsely : Prop := fnExactSightFlipRow.holds Try.pinned (OpenSpec.ofChange fnExactSightFlipWrong)

/-- 'laws.FnExactSightTurn': WHATEVER THE INPUT: true; the input reads as it did. -/
def fnExactSightTurnSpec : ChangeSpec := { name := "fnExactSightTurn", fn := fun _ => fun
  | [d1, d2] => { results := [.lit (.bool true)], args := [d1, d2] }
  | _ => none }
def fnExactSightTurnRow : OpenClaim := { program := "ytniaipoelaefnaa", sum := "2697fa199a1472be145509439cd8a7678f400bff2c482ff816fefcd0a09cdffc", func := "loop.example/lucarne/laws.FnExactSightTurn", spec := "fnExactSightTurn", apart := false }
def FnExactSightTurnSaid : Prop := fnExactSightTurnRow.holds Try.pinned (OpenSpec.ofChange fnExactSightTurnSpec)

/-- ITS FALSE NEIGHBOUR: 'it returns false'. Refute it at one input. -/
def fnExactSightTurnWrong : ChangeSpec := { name := "fnExactSightTurn", fn := fun _ => fun
  | [d1, d2] => { results := [.lit (.bool false)], args := [d1, d2] }
  | _ => none }
def FnExactSightTurnWrongFalsely : Prop := fnExactSightTurnRow.holds Try.pinned (OpenSpec.ofChange fnExactSightTurnWrong)

/-- 'laws.FnExactRayNext': WHATEVER THE INPUT: true; the input reads as it did. -/
def fnExactRayNextSpec : ChangeSpec := { name := "fnExactRayNext", fn := fun _ => fun
  | [d1, d2, d3] => { results := [.lit (.bool true)], args := [d1, d2, d3] }
  | _ => none }
def fnExactRayNextRow : OpenClaim := { program := "ytniaipoelaefnaa", sum := "2697fa199a1472be145509439cd8a7678f400bff2c482ff816fefcd0a09cdffc", func := "loop.example/lucarne/laws.FnExactRayNext", spec := "fnExactRayNext", unfollowed := true, recurses := true, apart := false }
def FnExactRayNextSaid : Prop := fnExactRayNextRow.holds Try.pinned (OpenSpec.ofChange fnExactRayNextSpec)

/-- ITS FALSE NEIGHBOUR: 'it returns false'. Refute it at one input. -/
def fnExactRayNextWrong : ChangeSpec := { name := "fnExactRayNext", fn := fun _ => fun
  | [d1, d2, d3] => { results := [.lit (.bool false)], args := [d1, d2, d3] }
  | _ => none }
def FnExactRayNextWrongFalsely : Prop := fnExactRayNextRow.holds Try.pinned (OpenSpec.ofChange fnExactRayNextWrong)

/-- 'laws.FnExactSightRay': WHATEVER THE INPUT: true; the input reads as it did. -/
def fnExactSightRaySpec : ChangeSpec := { name := "fnExactSightRay", fn := fun _ => fun
  | [d1, d2] => { results := [.lit (.bool true)], args := [d1, d2] }
  | _ => none }
def fnExactSightRayRow : OpenClaim := { program := "ytniaipoelaefnaa", sum := "2697fa199a1472be145509439cd8a7678f400bff2c482ff816fefcd0a09cdffc", func := "loop.example/lucarne/laws.FnExactSightRay", spec := "fnExactSightRay", unfollowed := true, recurses := true, apart := false }
def FnExactSightRaySaid : Prop := fnExactSightRayRow.holds Try.pinned (OpenSpec.ofChange fnExactSightRaySpec)

/-- ITS FALSE NEIGHBOUR: 'it returns false'. Refute it at one input. -/
def fnExactSightRayWrong : ChangeSpec := { name := "fnExactSightRay", fn := fun _ => fun
  | [d1, d2] => { results := [.lit (.bool false)], args := [d1, d2] }
  | _ => none }
def FnExactSightRayWrongFalsely : Prop := fnExactSightRayRow.holds Try.pinned (OpenSpec.ofChange fnExactSightRayWrong)

/-- 'laws.FnExactSightOf': WHATEVER THE INPUT: true; the input reads as it did. -/
def fnExactSightOfSpec : ChangeSpec := { name := "fnExactSightOf", fn := fun _ => fun
  | [d1, d2, d3] => { results := [.lit (.bool true)], args := [d1, d2, d3] }
  | _ => none }
def fnExactSightOfRow : OpenClaim := { program := "ytniaipoelaefnaa", sum := "2697fa199a1472be145509439cd8a7678f400bff2c482ff816fefcd0a09cdffc", func := "loop.example/lucarne/laws.FnExactSightOf", spec := "fnExactSightOf", unfollowed := true, recurses := true, apart := false }
def FnExactSightOfSaid : Prop := fnExactSightOfRow.holds Try.pinned (OpenSpec.ofChange fnExactSightOfSpec)

/-- ITS FALSE NEIGHBOUR: 'it returns false'. Refute it at one input. -/
def fnExactSightOfWrong : ChangeSpec := { name := "fnExactSightOf", fn := fun _ => fun
  | [d1, d2, d3] => { results := [.lit (.bool false)], args := [d1, d2, d3] }
  | _ => none }
def FnExactSightOfWrongFalsely : Prop := fnExactSightOfRow.holds Try.pinned (OpenSpec.ofChange fnExactSightOfWrong)

/-- 'laws.FnExactGridPut': WHATEVER THE INPUT: true; the input reads as it did. -/
def fnExactGridPutSpec : ChangeSpec := { name := "fnExactGridPut", fn := fun _ => fun
  | [d1, d2, d3] => { results := [.lit (.bool true)], args := [d1, d2, d3] }
  | _ => none }
def fnExactGridPutRow : OpenClaim := { program := "ytniaipoelaefnaa", sum := "2697fa199a1472be145509439cd8a7678f400bff2c482ff816fefcd0a09cdffc", func := "loop.example/lucarne/laws.FnExactGridPut", spec := "fnExactGridPut", apart := false }
def FnExactGridPutSaid : Prop := fnExactGridPutRow.holds Try.pinned (OpenSpec.ofChange fnExactGridPutSpec)

/-- ITS FALSE NEIGHBOUR: 'it returns false'. Refute it at one input. -/
def fnExactGridPutWrong : ChangeSpec := { name := "fnExactGridPut", fn := fun _ => fun
  | [d1, d2, d3] => { results := [.lit (.bool false)], args := [d1, d2, d3] }
  | _ => none }
def FnExactGridPutWrongFalsely : Prop := fnExactGridPutRow.holds Try.pinned (OpenSpec.ofChange fnExactGridPutWrong)

/-- 'laws.FnExactGridText': WHATEVER THE INPUT: true; the input reads as it did. -/
def fnExactGridTextSpec : ChangeSpec := { name := "fnExactGridText", fn := fun _ => fun
  | [d] => { results := [.lit (.bool true)], args := [d] }
  | _ => none }
def fnExactGridTextRow : OpenClaim := { program := "ytniaipoelaefnaa", sum := "2697fa199a1472be145509439cd8a7678f400bff2c482ff816fefcd0a09cdffc", func := "loop.example/lucarne/laws.FnExactGridText", spec := "fnExactGridText", inPlace := ["internal/abi.NoEscape"], unfollowed := true, recurses := true, apart := false }
def FnExactGridTextSaid : Prop := fnExactGridTextRow.holds Try.pinned (OpenSpec.ofChange fnExactGridTextSpec)

/-- ITS FALSE NEIGHBOUR: 'it returns false'. Refute it at one input. -/
def fnExactGridTextWrong : ChangeSpec := { name := "fnExactGridText", fn := fun _ => fun
  | [d] => { results := [.lit (.bool false)], args := [d] }
  | _ => none }
def FnExactGridTextWrongFalsely : Prop := fnExactGridTextRow.holds Try.pinned (OpenSpec.ofChange fnExactGridTextWrong)

/-- 'laws.FnExactGridRead': WHATEVER THE INPUT: true; the input reads as it did. -/
def fnExactGridReadSpec : ChangeSpec := { name := "fnExactGridRead", fn := fun _ => fun
  | [d] => { results := [.lit (.bool true)], args := [d] }
  | _ => none }
def fnExactGridReadRow : OpenClaim := { program := "ytniaipoelaefnaa", sum := "2697fa199a1472be145509439cd8a7678f400bff2c482ff816fefcd0a09cdffc", func := "loop.example/lucarne/laws.FnExactGridRead", spec := "fnExactGridRead", inPlace := ["internal/bytealg.IndexByteString"], unfollowed := true, recurses := true, apart := false }
def FnExactGridReadSaid : Prop := fnExactGridReadRow.holds Try.pinned (OpenSpec.ofChange fnExactGridReadSpec)

/-- ITS FALSE NEIGHBOUR: 'it returns false'. Refute it at one input. -/
def fnExactGridReadWrong : ChangeSpec := { name := "fnExactGridRead", fn := fun _ => fun
  | [d] => { results := [.lit (.bool false)], args := [d] }
  | _ => none }
def FnExactGridReadWrongFalsely : Prop := fnExactGridReadRow.holds Try.pinned (OpenSpec.ofChange fnExactGridReadWrong)

/-- 'laws.FnExactGridFlip': WHATEVER THE INPUT: true; the input reads as it did. -/
def fnExactGridFlipSpec : ChangeSpec := { name := "fnExactGridFlip", fn := fun _ => fun
  | [d] => { results := [.lit (.bool true)], args := [d] }
  | _ => none }
def fnExactGridFlipRow : OpenClaim := { program := "ytniaipoelaefnaa", sum := "2697fa199a1472be145509439cd8a7678f400bff2c482ff816fefcd0a09cdffc", func := "loop.example/lucarne/laws.FnExactGridFlip", spec := "fnExactGridFlip", unfollowed := true, recurses := true, apart := false }
def FnExactGridFlipSaid : Prop := fnExactGridFlipRow.holds Try.pinned (OpenSpec.ofChange fnExactGridFlipSpec)

/-- ITS FALSE NEIGHBOUR: 'it returns false'. Refute it at one input. -/
def fnExactGridFlipWrong : ChangeSpec := { name := "fnExactGridFlip", fn := fun _ => fun
  | [d] => { results := [.lit (.bool false)], args := [d] }
  | _ => none }
def FnExactGridFlipWrongFalsely : Prop := fnExactGridFlipRow.holds Try.pinned (OpenSpec.ofChange fnExactGridFlipWrong)

/-- 'laws.FnExactGridTurn': WHATEVER THE INPUT: true; the input reads as it did. -/
def fnExactGridTurnSpec : ChangeSpec := { name := "fnExactGridTurn", fn := fun _ => fun
  | [d] => { results := [.lit (.bool true)], args := [d] }
  | _ => none }
def fnExactGridTurnRow : OpenClaim := { program := "ytniaipoelaefnaa", sum := "2697fa199a1472be145509439cd8a7678f400bff2c482ff816fefcd0a09cdffc", func := "loop.example/lucarne/laws.FnExactGridTurn", spec := "fnExactGridTurn", unfollowed := true, recurses := true, apart := false }
def FnExactGridTurnSaid : Prop := fnExactGridTurnRow.holds Try.pinned (OpenSpec.ofChange fnExactGridTurnSpec)

/-- ITS FALSE NEIGHBOUR: 'it returns false'. Refute it at one input. -/
def fnExactGridTurnWrong : ChangeSpec := { name := "fnExactGridTurn", fn := fun _ => fun
  | [d] => { results := [.lit (.bool false)], args := [d] }
  | _ => none }
def FnExactGridTurnWrongFalsely : Prop := fnExactGridTurnRow.holds Try.pinned (OpenSpec.ofChange fnExactGridTurnWrong)

/- THE SECOND FORM. 'bulk': how many values and letters a reading holds, each counted each time it is reached (what is shared counts as often as it is met; a slice's spare places count too). A statement '..UptoSaid' is the law's where the arguments, and the package variables that the reading takes, are together of bulk at most 1048576: NARROWER than '..Said'. Prove '..Said' where nothing that the law and all that it calls make is longer than what came in: it says more and counts as full. Else prove '..UptoSaid'. A law counts once. -/
mutual
def uptoBulk {H : Type} : DataW H → Nat
  | .lit (.string bytes) => bytes.length + 1
  | .lit _ => 1
  | .nil => 1
  | .ptr d => uptoBulk d + 1
  | .slice elems spare => uptoBulkAll elems + uptoBulkAll spare + 1
  | .agg parts => uptoBulkAll parts + 1
  | .iface _ d => uptoBulk d + 1
  | .map entries => uptoBulkEntries entries + 1
  | .held _ => 1
def uptoBulkAll {H : Type} : List (DataW H) → Nat
  | [] => 0
  | d :: r => uptoBulk d + uptoBulkAll r
def uptoBulkEntries {H : Type} : List (Lit × DataW H) → Nat
  | [] => 0
  | x :: r => uptoBulkEntry x + uptoBulkEntries r
def uptoBulkEntry {H : Type} : Lit × DataW H → Nat
  | (.string bytes, d) => bytes.length + uptoBulk d + 1
  | (_, d) => uptoBulk d + 1
 end
def uptoSmall : (H : Type) → List (DataW H) → Bool := fun _ ds => decide (uptoBulkAll ds ≤ 1048576)
def OpenSpec.upto (s : _root_.Go.ChangeSpec) : _root_.Go.OpenSpec := { _root_.Go.OpenSpec.ofChange s with cond := some uptoSmall }

/-- 'laws.FnExactGridOk', WHERE WHAT IT READS IS OF BULK AT MOST 1048576: true; the input reads as it did. -/
def fnExactGridOkUptoRow : OpenClaim := { program := "ytniaipoelaefnaa", sum := "2697fa199a1472be145509439cd8a7678f400bff2c482ff816fefcd0a09cdffc", func := "loop.example/lucarne/laws.FnExactGridOk", spec := "fnExactGridOk", apart := false, narrowed := true }
def FnExactGridOkUptoSaid : Prop := fnExactGridOkUptoRow.holds Try.pinned (OpenSpec.upto fnExactGridOkSpec)

/-- 'laws.FnExactSightMany', WHERE WHAT IT READS IS OF BULK AT MOST 1048576: true; the input reads as it did. -/
def fnExactSightManyUptoRow : OpenClaim := { program := "ytniaipoelaefnaa", sum := "2697fa199a1472be145509439cd8a7678f400bff2c482ff816fefcd0a09cdffc", func := "loop.example/lucarne/laws.FnExactSightMany", spec := "fnExactSightMany", apart := false, narrowed := true }
def FnExactSightManyUptoSaid : Prop := fnExactSightManyUptoRow.holds Try.pinned (OpenSpec.upto fnExactSightManySpec)

/-- 'laws.FnExactSightFlip', WHERE WHAT IT READS IS OF BULK AT MOST 1048576: true; the input reads as it did. -/
def fnExactSightFlipUptoRow : OpenClaim := { program := "ytniaipoelaefnaa", sum := "2697fa199a1472be145509439cd8a7678f400bff2c482ff816fefcd0a09cdffc", func := "loop.example/lucarne/laws.FnExactSightFlip", spec := "fnExactSightFlip", apart := false, narrowed := true }
def FnExactSightFlipUptoSaid : Prop := fnExactSightFlipUptoRow.holds Try.pinned (OpenSpec.upto fnExactSightFlipSpec)

/-- 'laws.FnExactSightTurn', WHERE WHAT IT READS IS OF BULK AT MOST 1048576: true; the input reads as it did. -/
def fnExactSightTurnUptoRow : OpenClaim := { program := "ytniaipoelaefnaa", sum := "2697fa199a1472be145509439cd8a7678f400bff2c482ff816fefcd0a09cdffc", func := "loop.example/lucarne/laws.FnExactSightTurn", spec := "fnExactSightTurn", apart := false, narrowed := true }
def FnExactSightTurnUptoSaid : Prop := fnExactSightTurnUptoRow.holds Try.pinned (OpenSpec.upto fnExactSightTurnSpec)

/-- 'laws.FnExactRayNext', WHERE WHAT IT READS IS OF BULK AT MOST 1048576: true; the input reads as it did. -/
def fnExactRayNextUptoRow : OpenClaim := { program := "ytniaipoelaefnaa", sum := "2697fa199a1472be145509439cd8a7678f400bff2c482ff816fefcd0a09cdffc", func := "loop.example/lucarne/laws.FnExactRayNext", spec := "fnExactRayNext", unfollowed := true, recurses := true, apart := false, narrowed := true }
def FnExactRayNextUptoSaid : Prop := fnExactRayNextUptoRow.holds Try.pinned (OpenSpec.upto fnExactRayNextSpec)

/-- 'laws.FnExactSightRay', WHERE WHAT IT READS IS OF BULK AT MOST 1048576: true; the input reads as it did. -/
def fnExactSightRayUptoRow : OpenClaim := { program := "ytniaipoelaefnaa", sum := "2697fa199a1472be145509439cd8a7678f400bff2c482ff816fefcd0a09cdffc", func := "loop.example/lucarne/laws.FnExactSightRay", spec := "fnExactSightRay", unfollowed := true, recurses := true, apart := false, narrowed := true }
def FnExactSightRayUptoSaid : Prop := fnExactSightRayUptoRow.holds Try.pinned (OpenSpec.upto fnExactSightRaySpec)

/-- 'laws.FnExactSightOf', WHERE WHAT IT READS IS OF BULK AT MOST 1048576: true; the input reads as it did. -/
def fnExactSightOfUptoRow : OpenClaim := { program := "ytniaipoelaefnaa", sum := "2697fa199a1472be145509439cd8a7678f400bff2c482ff816fefcd0a09cdffc", func := "loop.example/lucarne/laws.FnExactSightOf", spec := "fnExactSightOf", unfollowed := true, recurses := true, apart := false, narrowed := true }
def FnExactSightOfUptoSaid : Prop := fnExactSightOfUptoRow.holds Try.pinned (OpenSpec.upto fnExactSightOfSpec)

/-- 'laws.FnExactGridPut', WHERE WHAT IT READS IS OF BULK AT MOST 1048576: true; the input reads as it did. -/
def fnExactGridPutUptoRow : OpenClaim := { program := "ytniaipoelaefnaa", sum := "2697fa199a1472be145509439cd8a7678f400bff2c482ff816fefcd0a09cdffc", func := "loop.example/lucarne/laws.FnExactGridPut", spec := "fnExactGridPut", apart := false, narrowed := true }
def FnExactGridPutUptoSaid : Prop := fnExactGridPutUptoRow.holds Try.pinned (OpenSpec.upto fnExactGridPutSpec)

/-- 'laws.FnExactGridText', WHERE WHAT IT READS IS OF BULK AT MOST 1048576: true; the input reads as it did. -/
def fnExactGridTextUptoRow : OpenClaim := { program := "ytniaipoelaefnaa", sum := "2697fa199a1472be145509439cd8a7678f400bff2c482ff816fefcd0a09cdffc", func := "loop.example/lucarne/laws.FnExactGridText", spec := "fnExactGridText", inPlace := ["internal/abi.NoEscape"], unfollowed := true, recurses := true, apart := false, narrowed := true }
def FnExactGridTextUptoSaid : Prop := fnExactGridTextUptoRow.holds Try.pinned (OpenSpec.upto fnExactGridTextSpec)

/-- 'laws.FnExactGridRead', WHERE WHAT IT READS IS OF BULK AT MOST 1048576: true; the input reads as it did. -/
def fnExactGridReadUptoRow : OpenClaim := { program := "ytniaipoelaefnaa", sum := "2697fa199a1472be145509439cd8a7678f400bff2c482ff816fefcd0a09cdffc", func := "loop.example/lucarne/laws.FnExactGridRead", spec := "fnExactGridRead", inPlace := ["internal/bytealg.IndexByteString"], unfollowed := true, recurses := true, apart := false, narrowed := true }
def FnExactGridReadUptoSaid : Prop := fnExactGridReadUptoRow.holds Try.pinned (OpenSpec.upto fnExactGridReadSpec)

/-- 'laws.FnExactGridFlip', WHERE WHAT IT READS IS OF BULK AT MOST 1048576: true; the input reads as it did. -/
def fnExactGridFlipUptoRow : OpenClaim := { program := "ytniaipoelaefnaa", sum := "2697fa199a1472be145509439cd8a7678f400bff2c482ff816fefcd0a09cdffc", func := "loop.example/lucarne/laws.FnExactGridFlip", spec := "fnExactGridFlip", unfollowed := true, recurses := true, apart := false, narrowed := true }
def FnExactGridFlipUptoSaid : Prop := fnExactGridFlipUptoRow.holds Try.pinned (OpenSpec.upto fnExactGridFlipSpec)

/-- 'laws.FnExactGridTurn', WHERE WHAT IT READS IS OF BULK AT MOST 1048576: true; the input reads as it did. -/
def fnExactGridTurnUptoRow : OpenClaim := { program := "ytniaipoelaefnaa", sum := "2697fa199a1472be145509439cd8a7678f400bff2c482ff816fefcd0a09cdffc", func := "loop.example/lucarne/laws.FnExactGridTurn", spec := "fnExactGridTurn", unfollowed := true, recurses := true, apart := false, narrowed := true }
def FnExactGridTurnUptoSaid : Prop := fnExactGridTurnUptoRow.holds Try.pinned (OpenSpec.upto fnExactGridTurnSpec)

end Rows
end Go.Proofs.Ytniaipoelaefnaa
