/-
  No cell of these rows narrows 'for every input' (looked for: loops, veiled, ifaces, maps, wideKeys, modest, calm, conditions, laid).
  DERIVED. THE GIVEN ROWS OF THIS SEAT. 7 by the template 'for every input the law returns true; each argument reads behind the call as it read before'; 0 by the template 'total and deterministic' (their statements: YtmohfoleolmijaaTotals.lean).
  GIVEN WITH THE SEED: the statements are not yours to turn. If you find one false, say at which input.
  Laid BY PROGRAM, IN A SANDBOX (cutbox-rows.mjs): the forced cells as the released guide's own fill.sh prints them over the translation dd860ef6c992f5f3… (all of the seat's roots in one cut). By AI agents, Wed Nov 11 2026. No macro, syntax, notation, axiom, sorry.
-/
import Derived.Test.YtmohfoleolmijaaChecked
import GoSem.Claim
import GoSem.ClaimJoined
import GoSem.ClaimMapViews
import Derived.JoinedTies
import Derived.KernelRfl
namespace Go.Proofs.Ytmohfoleolmijaa
/- THE CELL 'sum', in the pinned program and in every row, IS THE sha256 OF THE DUMP (.gsa) THAT YtmohfoleolmijaaProg.lean LOADS. Nothing in Lean hashes anything: it is a label: what it is worth is what the hold of that sum in a sandbox is worth. -/
noncomputable def Try.pinned : Pinned := { name := "ytmohfoleolmijaa", sum := "dd860ef6c992f5f3bfa1d7a5f069071c0a2dafdfd67ce9290a0ee7132aa3853e", checked := Try.checked }
namespace Rows
def none {H : Type} : Left H := { results := [], args := [] }

/-- 'laws.FnExactTrailEnds': WHATEVER THE INPUT: true; the input reads as it did. -/
def fnExactTrailEndsSpec : ChangeSpec := { name := "fnExactTrailEnds", fn := fun _ => fun
  | [d1, d2] => { results := [.lit (.bool true)], args := [d1, d2] }
  | _ => none }
def fnExactTrailEndsRow : OpenClaim := { program := "ytmohfoleolmijaa", sum := "dd860ef6c992f5f3bfa1d7a5f069071c0a2dafdfd67ce9290a0ee7132aa3853e", func := "loop.example/lucarne/laws.FnExactTrailEnds", spec := "fnExactTrailEnds", unfollowed := true, recurses := true, apart := false }
def FnExactTrailEndsSaid : Prop := fnExactTrailEndsRow.holds Try.pinned (OpenSpec.ofChange fnExactTrailEndsSpec)

/-- ITS FALSE NEIGHBOUR: 'it returns false'. Refute it at one input. -/
def fnExactTrailEndsWrong : ChangeSpec := { name := "fnExactTrailEnds", fn := fun _ => fun
  | [d1, d2] => { results := [.lit (.bool false)], args := [d1, d2] }
  | _ => none }
def FnExactTrailEndsWrongFalsely : Prop := fnExactTrailEndsRow.holds Try.pinned (OpenSpec.ofChange fnExactTrailEndsWrong)

/-- 'laws.FnExactTrailVisits': WHATEVER THE INPUT: true; the input reads as it did. -/
def fnExactTrailVisitsSpec : ChangeSpec := { name := "fnExactTrailVisits", fn := fun _ => fun
  | [d1, d2] => { results := [.lit (.bool true)], args := [d1, d2] }
  | _ => none }
def fnExactTrailVisitsRow : OpenClaim := { program := "ytmohfoleolmijaa", sum := "dd860ef6c992f5f3bfa1d7a5f069071c0a2dafdfd67ce9290a0ee7132aa3853e", func := "loop.example/lucarne/laws.FnExactTrailVisits", spec := "fnExactTrailVisits", unfollowed := true, recurses := true, apart := false }
def FnExactTrailVisitsSaid : Prop := fnExactTrailVisitsRow.holds Try.pinned (OpenSpec.ofChange fnExactTrailVisitsSpec)

/-- ITS FALSE NEIGHBOUR: 'it returns false'. Refute it at one input. -/
def fnExactTrailVisitsWrong : ChangeSpec := { name := "fnExactTrailVisits", fn := fun _ => fun
  | [d1, d2] => { results := [.lit (.bool false)], args := [d1, d2] }
  | _ => none }
def FnExactTrailVisitsWrongFalsely : Prop := fnExactTrailVisitsRow.holds Try.pinned (OpenSpec.ofChange fnExactTrailVisitsWrong)

/-- 'laws.FnExactTrailTo': WHATEVER THE INPUT: true; the input reads as it did. -/
def fnExactTrailToSpec : ChangeSpec := { name := "fnExactTrailTo", fn := fun _ => fun
  | [d1, d2, d3] => { results := [.lit (.bool true)], args := [d1, d2, d3] }
  | _ => none }
def fnExactTrailToRow : OpenClaim := { program := "ytmohfoleolmijaa", sum := "dd860ef6c992f5f3bfa1d7a5f069071c0a2dafdfd67ce9290a0ee7132aa3853e", func := "loop.example/lucarne/laws.FnExactTrailTo", spec := "fnExactTrailTo", unfollowed := true, recurses := true, apart := false }
def FnExactTrailToSaid : Prop := fnExactTrailToRow.holds Try.pinned (OpenSpec.ofChange fnExactTrailToSpec)

/-- ITS FALSE NEIGHBOUR: 'it returns false'. Refute it at one input. -/
def fnExactTrailToWrong : ChangeSpec := { name := "fnExactTrailTo", fn := fun _ => fun
  | [d1, d2, d3] => { results := [.lit (.bool false)], args := [d1, d2, d3] }
  | _ => none }
def FnExactTrailToWrongFalsely : Prop := fnExactTrailToRow.holds Try.pinned (OpenSpec.ofChange fnExactTrailToWrong)

/-- 'laws.FnExactTrailLight': WHATEVER THE INPUT: true; the input reads as it did. -/
def fnExactTrailLightSpec : ChangeSpec := { name := "fnExactTrailLight", fn := fun _ => fun
  | [d1, d2] => { results := [.lit (.bool true)], args := [d1, d2] }
  | _ => none }
def fnExactTrailLightRow : OpenClaim := { program := "ytmohfoleolmijaa", sum := "dd860ef6c992f5f3bfa1d7a5f069071c0a2dafdfd67ce9290a0ee7132aa3853e", func := "loop.example/lucarne/laws.FnExactTrailLight", spec := "fnExactTrailLight", unfollowed := true, recurses := true, apart := false }
def FnExactTrailLightSaid : Prop := fnExactTrailLightRow.holds Try.pinned (OpenSpec.ofChange fnExactTrailLightSpec)

/-- ITS FALSE NEIGHBOUR: 'it returns false'. Refute it at one input. -/
def fnExactTrailLightWrong : ChangeSpec := { name := "fnExactTrailLight", fn := fun _ => fun
  | [d1, d2] => { results := [.lit (.bool false)], args := [d1, d2] }
  | _ => none }
def FnExactTrailLightWrongFalsely : Prop := fnExactTrailLightRow.holds Try.pinned (OpenSpec.ofChange fnExactTrailLightWrong)

/-- 'laws.FnTrailAll': WHATEVER THE INPUT: true; the input reads as it did. -/
def fnTrailAllSpec : ChangeSpec := { name := "fnTrailAll", fn := fun _ => fun
  | [d] => { results := [.lit (.bool true)], args := [d] }
  | _ => none }
def fnTrailAllRow : OpenClaim := { program := "ytmohfoleolmijaa", sum := "dd860ef6c992f5f3bfa1d7a5f069071c0a2dafdfd67ce9290a0ee7132aa3853e", func := "loop.example/lucarne/laws.FnTrailAll", spec := "fnTrailAll", unfollowed := true, recurses := true, apart := false }
def FnTrailAllSaid : Prop := fnTrailAllRow.holds Try.pinned (OpenSpec.ofChange fnTrailAllSpec)

/-- ITS FALSE NEIGHBOUR: 'it returns false'. Refute it at one input. -/
def fnTrailAllWrong : ChangeSpec := { name := "fnTrailAll", fn := fun _ => fun
  | [d] => { results := [.lit (.bool false)], args := [d] }
  | _ => none }
def FnTrailAllWrongFalsely : Prop := fnTrailAllRow.holds Try.pinned (OpenSpec.ofChange fnTrailAllWrong)

/-- 'laws.FnTrailFirst': WHATEVER THE INPUT: true; the input reads as it did. -/
def fnTrailFirstSpec : ChangeSpec := { name := "fnTrailFirst", fn := fun _ => fun
  | [d] => { results := [.lit (.bool true)], args := [d] }
  | _ => none }
def fnTrailFirstRow : OpenClaim := { program := "ytmohfoleolmijaa", sum := "dd860ef6c992f5f3bfa1d7a5f069071c0a2dafdfd67ce9290a0ee7132aa3853e", func := "loop.example/lucarne/laws.FnTrailFirst", spec := "fnTrailFirst", unfollowed := true, recurses := true, apart := false }
def FnTrailFirstSaid : Prop := fnTrailFirstRow.holds Try.pinned (OpenSpec.ofChange fnTrailFirstSpec)

/-- ITS FALSE NEIGHBOUR: 'it returns false'. Refute it at one input. -/
def fnTrailFirstWrong : ChangeSpec := { name := "fnTrailFirst", fn := fun _ => fun
  | [d] => { results := [.lit (.bool false)], args := [d] }
  | _ => none }
def FnTrailFirstWrongFalsely : Prop := fnTrailFirstRow.holds Try.pinned (OpenSpec.ofChange fnTrailFirstWrong)

/-- 'laws.FnLightEnds': WHATEVER THE INPUT: true; the input reads as it did. -/
def fnLightEndsSpec : ChangeSpec := { name := "fnLightEnds", fn := fun _ => fun
  | [d] => { results := [.lit (.bool true)], args := [d] }
  | _ => none }
def fnLightEndsRow : OpenClaim := { program := "ytmohfoleolmijaa", sum := "dd860ef6c992f5f3bfa1d7a5f069071c0a2dafdfd67ce9290a0ee7132aa3853e", func := "loop.example/lucarne/laws.FnLightEnds", spec := "fnLightEnds", unfollowed := true, recurses := true, apart := false }
def FnLightEndsSaid : Prop := fnLightEndsRow.holds Try.pinned (OpenSpec.ofChange fnLightEndsSpec)

/-- ITS FALSE NEIGHBOUR: 'it returns false'. Refute it at one input. -/
def fnLightEndsWrong : ChangeSpec := { name := "fnLightEnds", fn := fun _ => fun
  | [d] => { results := [.lit (.bool false)], args := [d] }
  | _ => none }
def FnLightEndsWrongFalsely : Prop := fnLightEndsRow.holds Try.pinned (OpenSpec.ofChange fnLightEndsWrong)

/- THE SECOND FORM. 'bulk': how many values and letters a reading holds, each counted each time it is reached (what is shared counts as often as it is met; a slice's spare places count too). A statement '..UptoSaid' is the law's where the arguments, and the package variables that the reading takes, are together of bulk at most 1048576: NARROWER than '..Said'. Prove '..Said' where nothing that the law and all that it calls make is longer than what came in: it says more and counts as full. Else prove '..UptoSaid'. A law counts once. -/
mutual
def uptoBulk {H : Type} : DataW H → Nat
  | .lit (.string bytes) => bytes.length + 1
  | .lit _ => 1
  | .nil => 1
  | .ptr d => uptoBulk d + 1
  | .slice elems spare => uptoBulkAll elems + uptoBulkAll spare + 1
  | .agg parts => uptoBulkAll parts + 1
  | .iface _ d => uptoBulk d + 1
  | .map entries => uptoBulkEntries entries + 1
  | .held _ => 1
def uptoBulkAll {H : Type} : List (DataW H) → Nat
  | [] => 0
  | d :: r => uptoBulk d + uptoBulkAll r
def uptoBulkEntries {H : Type} : List (Lit × DataW H) → Nat
  | [] => 0
  | x :: r => uptoBulkEntry x + uptoBulkEntries r
def uptoBulkEntry {H : Type} : Lit × DataW H → Nat
  | (.string bytes, d) => bytes.length + uptoBulk d + 1
  | (_, d) => uptoBulk d + 1
 end
def uptoSmall : (H : Type) → List (DataW H) → Bool := fun _ ds => decide (uptoBulkAll ds ≤ 1048576)
def OpenSpec.upto (s : _root_.Go.ChangeSpec) : _root_.Go.OpenSpec := { _root_.Go.OpenSpec.ofChange s with cond := some uptoSmall }

/-- 'laws.FnExactTrailEnds', WHERE WHAT IT READS IS OF BULK AT MOST 1048576: true; the input reads as it did. -/
def fnExactTrailEndsUptoRow : OpenClaim := { program := "ytmohfoleolmijaa", sum := "dd860ef6c992f5f3bfa1d7a5f069071c0a2dafdfd67ce9290a0ee7132aa3853e", func := "loop.example/lucarne/laws.FnExactTrailEnds", spec := "fnExactTrailEnds", unfollowed := true, recurses := true, apart := false, narrowed := true }
def FnExactTrailEndsUptoSaid : Prop := fnExactTrailEndsUptoRow.holds Try.pinned (OpenSpec.upto fnExactTrailEndsSpec)

/-- 'laws.FnExactTrailVisits', WHERE WHAT IT READS IS OF BULK AT MOST 1048576: true; the input reads as it did. -/
def fnExactTrailVisitsUptoRow : OpenClaim := { program := "ytmohfoleolmijaa", sum := "dd860ef6c992f5f3bfa1d7a5f069071c0a2dafdfd67ce9290a0ee7132aa3853e", func := "loop.example/lucarne/laws.FnExactTrailVisits", spec := "fnExactTrailVisits", unfollowed := true, recurses := true, apart := false, narrowed := true }
def FnExactTrailVisitsUptoSaid : Prop := fnExactTrailVisitsUptoRow.holds Try.pinned (OpenSpec.upto fnExactTrailVisitsSpec)

/-- 'laws.FnExactTrailTo', WHERE WHAT IT READS IS OF BULK AT MOST 1048576: true; the input reads as it did. -/
def fnExactTrailToUptoRow : OpenClaim := { program := "ytmohfoleolmijaa", sum := "dd860ef6c992f5f3bfa1d7a5f069071c0a2dafdfd67ce9290a0ee7132aa3853e", func := "loop.example/lucarne/laws.FnExactTrailTo", spec := "fnExactTrailTo", unfollowed := true, recurses := true, apart := false, narrowed := true }
def FnExactTrailToUptoSaid : Prop := fnExactTrailToUptoRow.holds Try.pinned (OpenSpec.upto fnExactTrailToSpec)

/-- 'laws.FnExactTrailLight', WHERE WHAT IT READS IS OF BULK AT MOST 1048576: true; the input reads as it did. -/
def fnExactTrailLightUptoRow : OpenClaim := { program := "ytmohfoleolmijaa", sum := "dd860ef6c992f5f3bfa1d7a5f069071c0a2dafdfd67ce9290a0ee7132aa3853e", func := "loop.example/lucarne/laws.FnExactTrailLight", spec := "fnExactTrailLight", unfollowed := true, recurses := true, apart := false, narrowed := true }
def FnExactTrailLightUptoSaid : Prop := fnExactTrailLightUptoRow.holds Try.pinned (OpenSpec.upto fnExactTrailLightSpec)

/-- 'laws.FnTrailAll', WHERE WHAT IT READS IS OF BULK AT MOST 1048576: true; the input reads as it did. -/
def fnTrailAllUptoRow : OpenClaim := { program := "ytmohfoleolmijaa", sum := "dd860ef6c992f5f3bfa1d7a5f069071c0a2dafdfd67ce9290a0ee7132aa3853e", func := "loop.example/lucarne/laws.FnTrailAll", spec := "fnTrailAll", unfollowed := true, recurses := true, apart := false, narrowed := true }
def FnTrailAllUptoSaid : Prop := fnTrailAllUptoRow.holds Try.pinned (OpenSpec.upto fnTrailAllSpec)

/-- 'laws.FnTrailFirst', WHERE WHAT IT READS IS OF BULK AT MOST 1048576: true; the input reads as it did. -/
def fnTrailFirstUptoRow : OpenClaim := { program := "ytmohfoleolmijaa", sum := "dd860ef6c992f5f3bfa1d7a5f069071c0a2dafdfd67ce9290a0ee7132aa3853e", func := "loop.example/lucarne/laws.FnTrailFirst", spec := "fnTrailFirst", unfollowed := true, recurses := true, apart := false, narrowed := true }
def FnTrailFirstUptoSaid : Prop := fnTrailFirstUptoRow.holds Try.pinned (OpenSpec.upto fnTrailFirstSpec)

/-- 'laws.FnLightEnds', WHERE WHAT IT READS IS OF BULK AT MOST 1048576: true; the input reads as it did. -/
def fnLightEndsUptoRow : OpenClaim := { program := "ytmohfoleolmijaa", sum := "dd860ef6c992f5f3bfa1d7a5f069071c0a2dafdfd67ce9290a0ee7132aa3853e", func := "loop.example/lucarne/laws.FnLightEnds", spec := "fnLightEnds", unfollowed := true, recurses := true, apart := false, narrowed := true }
def FnLightEndsUptoSaid : Prop := fnLightEndsUptoRow.holds Try.pinned (OpenSpec.upto fnLightEndsSpec)

end Rows
end Go.Proofs.Ytmohfoleolmijaa
