/-
  No cell of these rows narrows 'for every input' (looked for: loops, veiled, ifaces, maps, wideKeys, modest, calm, conditions, laid).
  DERIVED. THE GIVEN ROWS OF THIS SEAT. 8 by the template 'for every input the law returns true; each argument reads behind the call as it read before'; 0 by the template 'total and deterministic' (their statements: YtimabbleijkmhaaTotals.lean).
  GIVEN WITH THE SEED: the statements are not yours to turn. If you find one false, say at which input.
  Laid BY PROGRAM, IN A SANDBOX (cutbox-rows.mjs): the forced cells as the released guide's own fill.sh prints them over the translation 2b5746135d50a76d… (all of the seat's roots in one cut). By AI agents, Wed Nov 11 2026. No macro, syntax, notation, axiom, sorry.
-/
import Derived.Test.YtimabbleijkmhaaChecked
import GoSem.Claim
import GoSem.ClaimJoined
import GoSem.ClaimMapViews
import Derived.JoinedTies
import Derived.KernelRfl
namespace Go.Proofs.Ytimabbleijkmhaa
/- THE CELL 'sum', in the pinned program and in every row, IS THE sha256 OF THE DUMP (.gsa) THAT YtimabbleijkmhaaProg.lean LOADS. Nothing in Lean hashes anything: it is a label: what it is worth is what the hold of that sum in a sandbox is worth. -/
noncomputable def Try.pinned : Pinned := { name := "ytimabbleijkmhaa", sum := "2b5746135d50a76d2371cf80d209ffe5dc30c34ab61152235855fa6740eb8b20", checked := Try.checked }
namespace Rows
def none {H : Type} : Left H := { results := [], args := [] }

/-- 'laws.FnExactHexOf': WHATEVER THE INPUT: true; the input reads as it did. -/
def fnExactHexOfSpec : ChangeSpec := { name := "fnExactHexOf", fn := fun _ => fun
  | [d] => { results := [.lit (.bool true)], args := [d] }
  | _ => none }
def fnExactHexOfRow : OpenClaim := { program := "ytimabbleijkmhaa", sum := "2b5746135d50a76d2371cf80d209ffe5dc30c34ab61152235855fa6740eb8b20", func := "loop.example/g00089/laws.FnExactHexOf", spec := "fnExactHexOf", inPlace := ["internal/abi.NoEscape"], apart := false }
def FnExactHexOfSaid : Prop := fnExactHexOfRow.holds Try.pinned (OpenSpec.ofChange fnExactHexOfSpec)

/-- ITS FALSE NEIGHBOUR: 'it returns false'. Refute it at one input. -/
def fnExactHexOfWrong : ChangeSpec := { name := "fnExactHexOf", fn := fun _ => fun
  | [d] => { results := [.lit (.bool false)], args := [d] }
  | _ => none }
def FnExactHexOfWrongFalsely : Prop := fnExactHexOfRow.holds Try.pinned (OpenSpec.ofChange fnExactHexOfWrong)

/-- 'laws.FnExactReadBound': WHATEVER THE INPUT: true; the input reads as it did. -/
def fnExactReadBoundSpec : ChangeSpec := { name := "fnExactReadBound", fn := fun _ => fun
  | [d1, d2] => { results := [.lit (.bool true)], args := [d1, d2] }
  | _ => none }
def fnExactReadBoundRow : OpenClaim := { program := "ytimabbleijkmhaa", sum := "2b5746135d50a76d2371cf80d209ffe5dc30c34ab61152235855fa6740eb8b20", func := "loop.example/g00089/laws.FnExactReadBound", spec := "fnExactReadBound", apart := false }
def FnExactReadBoundSaid : Prop := fnExactReadBoundRow.holds Try.pinned (OpenSpec.ofChange fnExactReadBoundSpec)

/-- ITS FALSE NEIGHBOUR: 'it returns false'. Refute it at one input. -/
def fnExactReadBoundWrong : ChangeSpec := { name := "fnExactReadBound", fn := fun _ => fun
  | [d1, d2] => { results := [.lit (.bool false)], args := [d1, d2] }
  | _ => none }
def FnExactReadBoundWrongFalsely : Prop := fnExactReadBoundRow.holds Try.pinned (OpenSpec.ofChange fnExactReadBoundWrong)

/-- 'laws.FnExactBytesOfHex': WHATEVER THE INPUT: true; the input reads as it did. -/
def fnExactBytesOfHexSpec : ChangeSpec := { name := "fnExactBytesOfHex", fn := fun _ => fun
  | [d] => { results := [.lit (.bool true)], args := [d] }
  | _ => none }
def fnExactBytesOfHexRow : OpenClaim := { program := "ytimabbleijkmhaa", sum := "2b5746135d50a76d2371cf80d209ffe5dc30c34ab61152235855fa6740eb8b20", func := "loop.example/g00089/laws.FnExactBytesOfHex", spec := "fnExactBytesOfHex", inPlace := ["internal/bytealg.IndexByteString", "internal/abi.NoEscape"], apart := false }
def FnExactBytesOfHexSaid : Prop := fnExactBytesOfHexRow.holds Try.pinned (OpenSpec.ofChange fnExactBytesOfHexSpec)

/-- ITS FALSE NEIGHBOUR: 'it returns false'. Refute it at one input. -/
def fnExactBytesOfHexWrong : ChangeSpec := { name := "fnExactBytesOfHex", fn := fun _ => fun
  | [d] => { results := [.lit (.bool false)], args := [d] }
  | _ => none }
def FnExactBytesOfHexWrongFalsely : Prop := fnExactBytesOfHexRow.holds Try.pinned (OpenSpec.ofChange fnExactBytesOfHexWrong)

/-- 'laws.FnExactSameThings': WHATEVER THE INPUT: true; the input reads as it did. -/
def fnExactSameThingsSpec : ChangeSpec := { name := "fnExactSameThings", fn := fun _ => fun
  | [d1, d2] => { results := [.lit (.bool true)], args := [d1, d2] }
  | _ => none }
def fnExactSameThingsRow : OpenClaim := { program := "ytimabbleijkmhaa", sum := "2b5746135d50a76d2371cf80d209ffe5dc30c34ab61152235855fa6740eb8b20", func := "loop.example/g00089/laws.FnExactSameThings", spec := "fnExactSameThings", unfollowed := true, recurses := true, apart := false }
def FnExactSameThingsSaid : Prop := fnExactSameThingsRow.holds Try.pinned (OpenSpec.ofChange fnExactSameThingsSpec)

/-- ITS FALSE NEIGHBOUR: 'it returns false'. Refute it at one input. -/
def fnExactSameThingsWrong : ChangeSpec := { name := "fnExactSameThings", fn := fun _ => fun
  | [d1, d2] => { results := [.lit (.bool false)], args := [d1, d2] }
  | _ => none }
def FnExactSameThingsWrongFalsely : Prop := fnExactSameThingsRow.holds Try.pinned (OpenSpec.ofChange fnExactSameThingsWrong)

/-- 'laws.FnHexes': WHATEVER THE INPUT: true; the input reads as it did. -/
def fnHexesSpec : ChangeSpec := { name := "fnHexes", fn := fun _ => fun
  | [d] => { results := [.lit (.bool true)], args := [d] }
  | _ => none }
def fnHexesRow : OpenClaim := { program := "ytimabbleijkmhaa", sum := "2b5746135d50a76d2371cf80d209ffe5dc30c34ab61152235855fa6740eb8b20", func := "loop.example/g00089/laws.FnHexes", spec := "fnHexes", inPlace := ["internal/abi.NoEscape", "internal/bytealg.IndexByteString"], apart := false }
def FnHexesSaid : Prop := fnHexesRow.holds Try.pinned (OpenSpec.ofChange fnHexesSpec)

/-- ITS FALSE NEIGHBOUR: 'it returns false'. Refute it at one input. -/
def fnHexesWrong : ChangeSpec := { name := "fnHexes", fn := fun _ => fun
  | [d] => { results := [.lit (.bool false)], args := [d] }
  | _ => none }
def FnHexesWrongFalsely : Prop := fnHexesRow.holds Try.pinned (OpenSpec.ofChange fnHexesWrong)

/-- 'laws.FnExactDropThing': WHATEVER THE INPUT: true; the input reads as it did. -/
def fnExactDropThingSpec : ChangeSpec := { name := "fnExactDropThing", fn := fun _ => fun
  | [d1, d2] => { results := [.lit (.bool true)], args := [d1, d2] }
  | _ => none }
def fnExactDropThingRow : OpenClaim := { program := "ytimabbleijkmhaa", sum := "2b5746135d50a76d2371cf80d209ffe5dc30c34ab61152235855fa6740eb8b20", func := "loop.example/g00089/laws.FnExactDropThing", spec := "fnExactDropThing", apart := false }
def FnExactDropThingSaid : Prop := fnExactDropThingRow.holds Try.pinned (OpenSpec.ofChange fnExactDropThingSpec)

/-- ITS FALSE NEIGHBOUR: 'it returns false'. Refute it at one input. -/
def fnExactDropThingWrong : ChangeSpec := { name := "fnExactDropThing", fn := fun _ => fun
  | [d1, d2] => { results := [.lit (.bool false)], args := [d1, d2] }
  | _ => none }
def FnExactDropThingWrongFalsely : Prop := fnExactDropThingRow.holds Try.pinned (OpenSpec.ofChange fnExactDropThingWrong)

/-- 'laws.FnThings': WHATEVER THE INPUT: true; the input reads as it did. -/
def fnThingsSpec : ChangeSpec := { name := "fnThings", fn := fun _ => fun
  | [d] => { results := [.lit (.bool true)], args := [d] }
  | _ => none }
def fnThingsRow : OpenClaim := { program := "ytimabbleijkmhaa", sum := "2b5746135d50a76d2371cf80d209ffe5dc30c34ab61152235855fa6740eb8b20", func := "loop.example/g00089/laws.FnThings", spec := "fnThings", inPlace := ["slices.overlaps[loop.example/g00089/impl.Thing]"], unfollowed := true, recurses := true, apart := false }
def FnThingsSaid : Prop := fnThingsRow.holds Try.pinned (OpenSpec.ofChange fnThingsSpec)

/-- ITS FALSE NEIGHBOUR: 'it returns false'. Refute it at one input. -/
def fnThingsWrong : ChangeSpec := { name := "fnThings", fn := fun _ => fun
  | [d] => { results := [.lit (.bool false)], args := [d] }
  | _ => none }
def FnThingsWrongFalsely : Prop := fnThingsRow.holds Try.pinned (OpenSpec.ofChange fnThingsWrong)

/-- 'laws.FnExactPutThing': WHATEVER THE INPUT: true; the input reads as it did. -/
def fnExactPutThingSpec : ChangeSpec := { name := "fnExactPutThing", fn := fun _ => fun
  | [d1, d2, d3] => { results := [.lit (.bool true)], args := [d1, d2, d3] }
  | _ => none }
def fnExactPutThingRow : OpenClaim := { program := "ytimabbleijkmhaa", sum := "2b5746135d50a76d2371cf80d209ffe5dc30c34ab61152235855fa6740eb8b20", func := "loop.example/g00089/laws.FnExactPutThing", spec := "fnExactPutThing", inPlace := ["slices.overlaps[loop.example/g00089/impl.Thing]"], unfollowed := true, recurses := true, apart := false }
def FnExactPutThingSaid : Prop := fnExactPutThingRow.holds Try.pinned (OpenSpec.ofChange fnExactPutThingSpec)

/-- ITS FALSE NEIGHBOUR: 'it returns false'. Refute it at one input. -/
def fnExactPutThingWrong : ChangeSpec := { name := "fnExactPutThing", fn := fun _ => fun
  | [d1, d2, d3] => { results := [.lit (.bool false)], args := [d1, d2, d3] }
  | _ => none }
def FnExactPutThingWrongFalsely : Prop := fnExactPutThingRow.holds Try.pinned (OpenSpec.ofChange fnExactPutThingWrong)

/- THE SECOND FORM. 'bulk': how many values and letters a reading holds, each counted each time it is reached (what is shared counts as often as it is met; a slice's spare places count too). A statement '..UptoSaid' is the law's where the arguments, and the package variables that the reading takes, are together of bulk at most 1048576: NARROWER than '..Said'. Prove '..Said' where nothing that the law and all that it calls make is longer than what came in: it says more and counts as full. Else prove '..UptoSaid'. A law counts once. -/
mutual
def uptoBulk {H : Type} : DataW H → Nat
  | .lit (.string bytes) => bytes.length + 1
  | .lit _ => 1
  | .nil => 1
  | .ptr d => uptoBulk d + 1
  | .slice elems spare => uptoBulkAll elems + uptoBulkAll spare + 1
  | .agg parts => uptoBulkAll parts + 1
  | .iface _ d => uptoBulk d + 1
  | .map entries => uptoBulkEntries entries + 1
  | .held _ => 1
def uptoBulkAll {H : Type} : List (DataW H) → Nat
  | [] => 0
  | d :: r => uptoBulk d + uptoBulkAll r
def uptoBulkEntries {H : Type} : List (Lit × DataW H) → Nat
  | [] => 0
  | x :: r => uptoBulkEntry x + uptoBulkEntries r
def uptoBulkEntry {H : Type} : Lit × DataW H → Nat
  | (.string bytes, d) => bytes.length + uptoBulk d + 1
  | (_, d) => uptoBulk d + 1
 end
def uptoSmall : (H : Type) → List (DataW H) → Bool := fun _ ds => decide (uptoBulkAll ds ≤ 1048576)
def OpenSpec.upto (s : _root_.Go.ChangeSpec) : _root_.Go.OpenSpec := { _root_.Go.OpenSpec.ofChange s with cond := some uptoSmall }

/-- 'laws.FnExactHexOf', WHERE WHAT IT READS IS OF BULK AT MOST 1048576: true; the input reads as it did. -/
def fnExactHexOfUptoRow : OpenClaim := { program := "ytimabbleijkmhaa", sum := "2b5746135d50a76d2371cf80d209ffe5dc30c34ab61152235855fa6740eb8b20", func := "loop.example/g00089/laws.FnExactHexOf", spec := "fnExactHexOf", inPlace := ["internal/abi.NoEscape"], apart := false, narrowed := true }
def FnExactHexOfUptoSaid : Prop := fnExactHexOfUptoRow.holds Try.pinned (OpenSpec.upto fnExactHexOfSpec)

/-- 'laws.FnExactReadBound', WHERE WHAT IT READS IS OF BULK AT MOST 1048576: true; the input reads as it did. -/
def fnExactReadBoundUptoRow : OpenClaim := { program := "ytimabbleijkmhaa", sum := "2b5746135d50a76d2371cf80d209ffe5dc30c34ab61152235855fa6740eb8b20", func := "loop.example/g00089/laws.FnExactReadBound", spec := "fnExactReadBound", apart := false, narrowed := true }
def FnExactReadBoundUptoSaid : Prop := fnExactReadBoundUptoRow.holds Try.pinned (OpenSpec.upto fnExactReadBoundSpec)

/-- 'laws.FnExactBytesOfHex', WHERE WHAT IT READS IS OF BULK AT MOST 1048576: true; the input reads as it did. -/
def fnExactBytesOfHexUptoRow : OpenClaim := { program := "ytimabbleijkmhaa", sum := "2b5746135d50a76d2371cf80d209ffe5dc30c34ab61152235855fa6740eb8b20", func := "loop.example/g00089/laws.FnExactBytesOfHex", spec := "fnExactBytesOfHex", inPlace := ["internal/bytealg.IndexByteString", "internal/abi.NoEscape"], apart := false, narrowed := true }
def FnExactBytesOfHexUptoSaid : Prop := fnExactBytesOfHexUptoRow.holds Try.pinned (OpenSpec.upto fnExactBytesOfHexSpec)

/-- 'laws.FnExactSameThings', WHERE WHAT IT READS IS OF BULK AT MOST 1048576: true; the input reads as it did. -/
def fnExactSameThingsUptoRow : OpenClaim := { program := "ytimabbleijkmhaa", sum := "2b5746135d50a76d2371cf80d209ffe5dc30c34ab61152235855fa6740eb8b20", func := "loop.example/g00089/laws.FnExactSameThings", spec := "fnExactSameThings", unfollowed := true, recurses := true, apart := false, narrowed := true }
def FnExactSameThingsUptoSaid : Prop := fnExactSameThingsUptoRow.holds Try.pinned (OpenSpec.upto fnExactSameThingsSpec)

/-- 'laws.FnHexes', WHERE WHAT IT READS IS OF BULK AT MOST 1048576: true; the input reads as it did. -/
def fnHexesUptoRow : OpenClaim := { program := "ytimabbleijkmhaa", sum := "2b5746135d50a76d2371cf80d209ffe5dc30c34ab61152235855fa6740eb8b20", func := "loop.example/g00089/laws.FnHexes", spec := "fnHexes", inPlace := ["internal/abi.NoEscape", "internal/bytealg.IndexByteString"], apart := false, narrowed := true }
def FnHexesUptoSaid : Prop := fnHexesUptoRow.holds Try.pinned (OpenSpec.upto fnHexesSpec)

/-- 'laws.FnExactDropThing', WHERE WHAT IT READS IS OF BULK AT MOST 1048576: true; the input reads as it did. -/
def fnExactDropThingUptoRow : OpenClaim := { program := "ytimabbleijkmhaa", sum := "2b5746135d50a76d2371cf80d209ffe5dc30c34ab61152235855fa6740eb8b20", func := "loop.example/g00089/laws.FnExactDropThing", spec := "fnExactDropThing", apart := false, narrowed := true }
def FnExactDropThingUptoSaid : Prop := fnExactDropThingUptoRow.holds Try.pinned (OpenSpec.upto fnExactDropThingSpec)

/-- 'laws.FnThings', WHERE WHAT IT READS IS OF BULK AT MOST 1048576: true; the input reads as it did. -/
def fnThingsUptoRow : OpenClaim := { program := "ytimabbleijkmhaa", sum := "2b5746135d50a76d2371cf80d209ffe5dc30c34ab61152235855fa6740eb8b20", func := "loop.example/g00089/laws.FnThings", spec := "fnThings", inPlace := ["slices.overlaps[loop.example/g00089/impl.Thing]"], unfollowed := true, recurses := true, apart := false, narrowed := true }
def FnThingsUptoSaid : Prop := fnThingsUptoRow.holds Try.pinned (OpenSpec.upto fnThingsSpec)

/-- 'laws.FnExactPutThing', WHERE WHAT IT READS IS OF BULK AT MOST 1048576: true; the input reads as it did. -/
def fnExactPutThingUptoRow : OpenClaim := { program := "ytimabbleijkmhaa", sum := "2b5746135d50a76d2371cf80d209ffe5dc30c34ab61152235855fa6740eb8b20", func := "loop.example/g00089/laws.FnExactPutThing", spec := "fnExactPutThing", inPlace := ["slices.overlaps[loop.example/g00089/impl.Thing]"], unfollowed := true, recurses := true, apart := false, narrowed := true }
def FnExactPutThingUptoSaid : Prop := fnExactPutThingUptoRow.holds Try.pinned (OpenSpec.upto fnExactPutThingSpec)

end Rows
end Go.Proofs.Ytimabbleijkmhaa
