/-
  No cell of these rows narrows 'for every input' (looked for: loops, veiled, ifaces, maps, wideKeys, modest, calm, conditions, laid).
  DERIVED. THE GIVEN ROWS OF THIS SEAT. 7 by the template 'for every input the law returns true; each argument reads behind the call as it read before'; 0 by the template 'total and deterministic' (their statements: YtpjdhpkfenohgaaTotals.lean).
  GIVEN WITH THE SEED: the statements are not yours to turn. If you find one false, say at which input.
  Laid BY PROGRAM, IN A SANDBOX (cutbox-rows.mjs): the forced cells as the released guide's own fill.sh prints them over the translation ea5efbd86df2d6f6… (all of the seat's roots in one cut). By AI agents, Wed Nov 11 2026. No macro, syntax, notation, axiom, sorry.
-/
import Derived.Test.YtpjdhpkfenohgaaChecked
import GoSem.Claim
import GoSem.ClaimJoined
import GoSem.ClaimMapViews
import Derived.JoinedTies
import Derived.KernelRfl
namespace Go.Proofs.Ytpjdhpkfenohgaa
/- THE CELL 'sum', in the pinned program and in every row, IS THE sha256 OF THE DUMP (.gsa) THAT YtpjdhpkfenohgaaProg.lean LOADS. Nothing in Lean hashes anything: it is a label: what it is worth is what the hold of that sum in a sandbox is worth. -/
noncomputable def Try.pinned : Pinned := { name := "ytpjdhpkfenohgaa", sum := "ea5efbd86df2d6f63072f3e365fd6a2047eba30b2f4b07baa4ccb0d2f164207e", checked := Try.checked }
namespace Rows
def none {H : Type} : Left H := { results := [], args := [] }

/-- 'laws.FnExactGridText': WHATEVER THE INPUT: true; the input reads as it did. -/
def fnExactGridTextSpec : ChangeSpec := { name := "fnExactGridText", fn := fun _ => fun
  | [d] => { results := [.lit (.bool true)], args := [d] }
  | _ => none }
def fnExactGridTextRow : OpenClaim := { program := "ytpjdhpkfenohgaa", sum := "ea5efbd86df2d6f63072f3e365fd6a2047eba30b2f4b07baa4ccb0d2f164207e", func := "loop.example/lucarne/laws.FnExactGridText", spec := "fnExactGridText", inPlace := ["internal/abi.NoEscape"], unfollowed := true, recurses := true, apart := false }
def FnExactGridTextSaid : Prop := fnExactGridTextRow.holds Try.pinned (OpenSpec.ofChange fnExactGridTextSpec)

/-- ITS FALSE NEIGHBOUR: 'it returns false'. Refute it at one input. -/
def fnExactGridTextWrong : ChangeSpec := { name := "fnExactGridText", fn := fun _ => fun
  | [d] => { results := [.lit (.bool false)], args := [d] }
  | _ => none }
def FnExactGridTextWrongFalsely : Prop := fnExactGridTextRow.holds Try.pinned (OpenSpec.ofChange fnExactGridTextWrong)

/-- 'laws.FnExactGridRead': WHATEVER THE INPUT: true; the input reads as it did. -/
def fnExactGridReadSpec : ChangeSpec := { name := "fnExactGridRead", fn := fun _ => fun
  | [d] => { results := [.lit (.bool true)], args := [d] }
  | _ => none }
def fnExactGridReadRow : OpenClaim := { program := "ytpjdhpkfenohgaa", sum := "ea5efbd86df2d6f63072f3e365fd6a2047eba30b2f4b07baa4ccb0d2f164207e", func := "loop.example/lucarne/laws.FnExactGridRead", spec := "fnExactGridRead", inPlace := ["internal/bytealg.IndexByteString"], unfollowed := true, recurses := true, apart := false }
def FnExactGridReadSaid : Prop := fnExactGridReadRow.holds Try.pinned (OpenSpec.ofChange fnExactGridReadSpec)

/-- ITS FALSE NEIGHBOUR: 'it returns false'. Refute it at one input. -/
def fnExactGridReadWrong : ChangeSpec := { name := "fnExactGridRead", fn := fun _ => fun
  | [d] => { results := [.lit (.bool false)], args := [d] }
  | _ => none }
def FnExactGridReadWrongFalsely : Prop := fnExactGridReadRow.holds Try.pinned (OpenSpec.ofChange fnExactGridReadWrong)

/-- 'laws.FnCellSign': WHATEVER THE INPUT: true; the input reads as it did. -/
def fnCellSignSpec : ChangeSpec := { name := "fnCellSign", fn := fun _ => fun
  | [d1, d2] => { results := [.lit (.bool true)], args := [d1, d2] }
  | _ => none }
def fnCellSignRow : OpenClaim := { program := "ytpjdhpkfenohgaa", sum := "ea5efbd86df2d6f63072f3e365fd6a2047eba30b2f4b07baa4ccb0d2f164207e", func := "loop.example/lucarne/laws.FnCellSign", spec := "fnCellSign", inPlace := ["internal/abi.NoEscape"], unfollowed := true, recurses := true, apart := false }
def FnCellSignSaid : Prop := fnCellSignRow.holds Try.pinned (OpenSpec.ofChange fnCellSignSpec)

/-- ITS FALSE NEIGHBOUR: 'it returns false'. Refute it at one input. -/
def fnCellSignWrong : ChangeSpec := { name := "fnCellSign", fn := fun _ => fun
  | [d1, d2] => { results := [.lit (.bool false)], args := [d1, d2] }
  | _ => none }
def FnCellSignWrongFalsely : Prop := fnCellSignRow.holds Try.pinned (OpenSpec.ofChange fnCellSignWrong)

/-- 'laws.FnGridOne': WHATEVER THE INPUT: true; the input reads as it did. -/
def fnGridOneSpec : ChangeSpec := { name := "fnGridOne", fn := fun _ => fun
  | [d1, d2] => { results := [.lit (.bool true)], args := [d1, d2] }
  | _ => none }
def fnGridOneRow : OpenClaim := { program := "ytpjdhpkfenohgaa", sum := "ea5efbd86df2d6f63072f3e365fd6a2047eba30b2f4b07baa4ccb0d2f164207e", func := "loop.example/lucarne/laws.FnGridOne", spec := "fnGridOne", inPlace := ["internal/abi.NoEscape"], unfollowed := true, recurses := true, apart := false }
def FnGridOneSaid : Prop := fnGridOneRow.holds Try.pinned (OpenSpec.ofChange fnGridOneSpec)

/-- ITS FALSE NEIGHBOUR: 'it returns false'. Refute it at one input. -/
def fnGridOneWrong : ChangeSpec := { name := "fnGridOne", fn := fun _ => fun
  | [d1, d2] => { results := [.lit (.bool false)], args := [d1, d2] }
  | _ => none }
def FnGridOneWrongFalsely : Prop := fnGridOneRow.holds Try.pinned (OpenSpec.ofChange fnGridOneWrong)

/-- 'laws.FnGridBack': WHATEVER THE INPUT: true; the input reads as it did. -/
def fnGridBackSpec : ChangeSpec := { name := "fnGridBack", fn := fun _ => fun
  | [d] => { results := [.lit (.bool true)], args := [d] }
  | _ => none }
def fnGridBackRow : OpenClaim := { program := "ytpjdhpkfenohgaa", sum := "ea5efbd86df2d6f63072f3e365fd6a2047eba30b2f4b07baa4ccb0d2f164207e", func := "loop.example/lucarne/laws.FnGridBack", spec := "fnGridBack", inPlace := ["internal/abi.NoEscape", "internal/bytealg.IndexByteString"], unfollowed := true, recurses := true, apart := false }
def FnGridBackSaid : Prop := fnGridBackRow.holds Try.pinned (OpenSpec.ofChange fnGridBackSpec)

/-- ITS FALSE NEIGHBOUR: 'it returns false'. Refute it at one input. -/
def fnGridBackWrong : ChangeSpec := { name := "fnGridBack", fn := fun _ => fun
  | [d] => { results := [.lit (.bool false)], args := [d] }
  | _ => none }
def FnGridBackWrongFalsely : Prop := fnGridBackRow.holds Try.pinned (OpenSpec.ofChange fnGridBackWrong)

/-- 'laws.FnGridStack': WHATEVER THE INPUT: true; the input reads as it did. -/
def fnGridStackSpec : ChangeSpec := { name := "fnGridStack", fn := fun _ => fun
  | [d1, d2] => { results := [.lit (.bool true)], args := [d1, d2] }
  | _ => none }
def fnGridStackRow : OpenClaim := { program := "ytpjdhpkfenohgaa", sum := "ea5efbd86df2d6f63072f3e365fd6a2047eba30b2f4b07baa4ccb0d2f164207e", func := "loop.example/lucarne/laws.FnGridStack", spec := "fnGridStack", inPlace := ["internal/abi.NoEscape", "internal/bytealg.IndexByteString"], unfollowed := true, recurses := true, apart := false }
def FnGridStackSaid : Prop := fnGridStackRow.holds Try.pinned (OpenSpec.ofChange fnGridStackSpec)

/-- ITS FALSE NEIGHBOUR: 'it returns false'. Refute it at one input. -/
def fnGridStackWrong : ChangeSpec := { name := "fnGridStack", fn := fun _ => fun
  | [d1, d2] => { results := [.lit (.bool false)], args := [d1, d2] }
  | _ => none }
def FnGridStackWrongFalsely : Prop := fnGridStackRow.holds Try.pinned (OpenSpec.ofChange fnGridStackWrong)

/-- 'laws.FnGridStrict': WHATEVER THE INPUT: true; the input reads as it did. -/
def fnGridStrictSpec : ChangeSpec := { name := "fnGridStrict", fn := fun _ => fun
  | [d] => { results := [.lit (.bool true)], args := [d] }
  | _ => none }
def fnGridStrictRow : OpenClaim := { program := "ytpjdhpkfenohgaa", sum := "ea5efbd86df2d6f63072f3e365fd6a2047eba30b2f4b07baa4ccb0d2f164207e", func := "loop.example/lucarne/laws.FnGridStrict", spec := "fnGridStrict", inPlace := ["internal/bytealg.IndexByteString", "internal/abi.NoEscape"], unfollowed := true, recurses := true, apart := false }
def FnGridStrictSaid : Prop := fnGridStrictRow.holds Try.pinned (OpenSpec.ofChange fnGridStrictSpec)

/-- ITS FALSE NEIGHBOUR: 'it returns false'. Refute it at one input. -/
def fnGridStrictWrong : ChangeSpec := { name := "fnGridStrict", fn := fun _ => fun
  | [d] => { results := [.lit (.bool false)], args := [d] }
  | _ => none }
def FnGridStrictWrongFalsely : Prop := fnGridStrictRow.holds Try.pinned (OpenSpec.ofChange fnGridStrictWrong)

/- THE SECOND FORM. 'bulk': how many values and letters a reading holds, each counted each time it is reached (what is shared counts as often as it is met; a slice's spare places count too). A statement '..UptoSaid' is the law's where the arguments, and the package variables that the reading takes, are together of bulk at most 1048576: NARROWER than '..Said'. Prove '..Said' where nothing that the law and all that it calls make is longer than what came in: it says more and counts as full. Else prove '..UptoSaid'. A law counts once. -/
mutual
def uptoBulk {H : Type} : DataW H → Nat
  | .lit (.string bytes) => bytes.length + 1
  | .lit _ => 1
  | .nil => 1
  | .ptr d => uptoBulk d + 1
  | .slice elems spare => uptoBulkAll elems + uptoBulkAll spare + 1
  | .agg parts => uptoBulkAll parts + 1
  | .iface _ d => uptoBulk d + 1
  | .map entries => uptoBulkEntries entries + 1
  | .held _ => 1
def uptoBulkAll {H : Type} : List (DataW H) → Nat
  | [] => 0
  | d :: r => uptoBulk d + uptoBulkAll r
def uptoBulkEntries {H : Type} : List (Lit × DataW H) → Nat
  | [] => 0
  | x :: r => uptoBulkEntry x + uptoBulkEntries r
def uptoBulkEntry {H : Type} : Lit × DataW H → Nat
  | (.string bytes, d) => bytes.length + uptoBulk d + 1
  | (_, d) => uptoBulk d + 1
 end
def uptoSmall : (H : Type) → List (DataW H) → Bool := fun _ ds => decide (uptoBulkAll ds ≤ 1048576)
def OpenSpec.upto (s : _root_.Go.ChangeSpec) : _root_.Go.OpenSpec := { _root_.Go.OpenSpec.ofChange s with cond := some uptoSmall }

/-- 'laws.FnExactGridText', WHERE WHAT IT READS IS OF BULK AT MOST 1048576: true; the input reads as it did. -/
def fnExactGridTextUptoRow : OpenClaim := { program := "ytpjdhpkfenohgaa", sum := "ea5efbd86df2d6f63072f3e365fd6a2047eba30b2f4b07baa4ccb0d2f164207e", func := "loop.example/lucarne/laws.FnExactGridText", spec := "fnExactGridText", inPlace := ["internal/abi.NoEscape"], unfollowed := true, recurses := true, apart := false, narrowed := true }
def FnExactGridTextUptoSaid : Prop := fnExactGridTextUptoRow.holds Try.pinned (OpenSpec.upto fnExactGridTextSpec)

/-- 'laws.FnExactGridRead', WHERE WHAT IT READS IS OF BULK AT MOST 1048576: true; the input reads as it did. -/
def fnExactGridReadUptoRow : OpenClaim := { program := "ytpjdhpkfenohgaa", sum := "ea5efbd86df2d6f63072f3e365fd6a2047eba30b2f4b07baa4ccb0d2f164207e", func := "loop.example/lucarne/laws.FnExactGridRead", spec := "fnExactGridRead", inPlace := ["internal/bytealg.IndexByteString"], unfollowed := true, recurses := true, apart := false, narrowed := true }
def FnExactGridReadUptoSaid : Prop := fnExactGridReadUptoRow.holds Try.pinned (OpenSpec.upto fnExactGridReadSpec)

/-- 'laws.FnCellSign', WHERE WHAT IT READS IS OF BULK AT MOST 1048576: true; the input reads as it did. -/
def fnCellSignUptoRow : OpenClaim := { program := "ytpjdhpkfenohgaa", sum := "ea5efbd86df2d6f63072f3e365fd6a2047eba30b2f4b07baa4ccb0d2f164207e", func := "loop.example/lucarne/laws.FnCellSign", spec := "fnCellSign", inPlace := ["internal/abi.NoEscape"], unfollowed := true, recurses := true, apart := false, narrowed := true }
def FnCellSignUptoSaid : Prop := fnCellSignUptoRow.holds Try.pinned (OpenSpec.upto fnCellSignSpec)

/-- 'laws.FnGridOne', WHERE WHAT IT READS IS OF BULK AT MOST 1048576: true; the input reads as it did. -/
def fnGridOneUptoRow : OpenClaim := { program := "ytpjdhpkfenohgaa", sum := "ea5efbd86df2d6f63072f3e365fd6a2047eba30b2f4b07baa4ccb0d2f164207e", func := "loop.example/lucarne/laws.FnGridOne", spec := "fnGridOne", inPlace := ["internal/abi.NoEscape"], unfollowed := true, recurses := true, apart := false, narrowed := true }
def FnGridOneUptoSaid : Prop := fnGridOneUptoRow.holds Try.pinned (OpenSpec.upto fnGridOneSpec)

/-- 'laws.FnGridBack', WHERE WHAT IT READS IS OF BULK AT MOST 1048576: true; the input reads as it did. -/
def fnGridBackUptoRow : OpenClaim := { program := "ytpjdhpkfenohgaa", sum := "ea5efbd86df2d6f63072f3e365fd6a2047eba30b2f4b07baa4ccb0d2f164207e", func := "loop.example/lucarne/laws.FnGridBack", spec := "fnGridBack", inPlace := ["internal/abi.NoEscape", "internal/bytealg.IndexByteString"], unfollowed := true, recurses := true, apart := false, narrowed := true }
def FnGridBackUptoSaid : Prop := fnGridBackUptoRow.holds Try.pinned (OpenSpec.upto fnGridBackSpec)

/-- 'laws.FnGridStack', WHERE WHAT IT READS IS OF BULK AT MOST 1048576: true; the input reads as it did. -/
def fnGridStackUptoRow : OpenClaim := { program := "ytpjdhpkfenohgaa", sum := "ea5efbd86df2d6f63072f3e365fd6a2047eba30b2f4b07baa4ccb0d2f164207e", func := "loop.example/lucarne/laws.FnGridStack", spec := "fnGridStack", inPlace := ["internal/abi.NoEscape", "internal/bytealg.IndexByteString"], unfollowed := true, recurses := true, apart := false, narrowed := true }
def FnGridStackUptoSaid : Prop := fnGridStackUptoRow.holds Try.pinned (OpenSpec.upto fnGridStackSpec)

/-- 'laws.FnGridStrict', WHERE WHAT IT READS IS OF BULK AT MOST 1048576: true; the input reads as it did. -/
def fnGridStrictUptoRow : OpenClaim := { program := "ytpjdhpkfenohgaa", sum := "ea5efbd86df2d6f63072f3e365fd6a2047eba30b2f4b07baa4ccb0d2f164207e", func := "loop.example/lucarne/laws.FnGridStrict", spec := "fnGridStrict", inPlace := ["internal/bytealg.IndexByteString", "internal/abi.NoEscape"], unfollowed := true, recurses := true, apart := false, narrowed := true }
def FnGridStrictUptoSaid : Prop := fnGridStrictUptoRow.holds Try.pinned (OpenSpec.upto fnGridStrictSpec)

end Rows
end Go.Proofs.Ytpjdhpkfenohgaa
