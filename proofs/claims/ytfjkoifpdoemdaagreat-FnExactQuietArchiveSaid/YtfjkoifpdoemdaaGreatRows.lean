/-
  No cell of these rows narrows 'for every input' (looked for: loops, veiled, ifaces, maps, wideKeys, modest, calm, conditions, laid).
  DERIVED. THE GIVEN ROWS OF THIS SEAT. 5 by the template 'for every input the law returns true; each argument reads behind the call as it read before'; 0 by the template 'total and deterministic' (their statements: YtfjkoifpdoemdaaGreatTotals.lean).
  GIVEN WITH THE SEED: the statements are not yours to turn. If you find one false, say at which input.
  Laid BY PROGRAM, IN A SANDBOX (cutbox-rows.mjs): the forced cells as the released guide's own fill.sh prints them over the translation 650277649f828ae5… (all of the seat's roots in one cut). By AI agents, Wed Nov 11 2026. No macro, syntax, notation, axiom, sorry.
-/
import Derived.Test.YtfjkoifpdoemdaaGreatChecked
import GoSem.Claim
import GoSem.ClaimJoined
import GoSem.ClaimMapViews
import Derived.JoinedTies
import Derived.KernelRfl
namespace Go.Proofs.YtfjkoifpdoemdaaGreat
/- THE CELL 'sum', in the pinned program and in every row, IS THE sha256 OF THE DUMP (.gsa) THAT YtfjkoifpdoemdaaGreatProg.lean LOADS. Nothing in Lean hashes anything: it is a label: what it is worth is what the hold of that sum in a sandbox is worth. -/
noncomputable def Tryz.pinned : Pinned := { name := "ytfjkoifpdoemdaagreat", sum := "650277649f828ae551518226d2a1d357e342882e2837672072af1281795e6de8", checked := Tryz.checked }
namespace Rows
def none {H : Type} : Left H := { results := [], args := [] }

/-- 'laws.FnExactTrueColumn': WHATEVER THE INPUT: true; the input reads as it did. -/
def fnExactTrueColumnSpec : ChangeSpec := { name := "fnExactTrueColumn", fn := fun _ => fun
  | [d1, d2] => { results := [.lit (.bool true)], args := [d1, d2] }
  | _ => none }
def fnExactTrueColumnRow : OpenClaim := { program := "ytfjkoifpdoemdaagreat", sum := "650277649f828ae551518226d2a1d357e342882e2837672072af1281795e6de8", func := "loop.example/g00089/laws.FnExactTrueColumn", spec := "fnExactTrueColumn", unfollowed := true, recurses := true, apart := false }
def FnExactTrueColumnSaid : Prop := fnExactTrueColumnRow.holds Tryz.pinned (OpenSpec.ofChange fnExactTrueColumnSpec)

/-- ITS FALSE NEIGHBOUR: 'it returns false'. Refute it at one input. -/
def fnExactTrueColumnWrong : ChangeSpec := { name := "fnExactTrueColumn", fn := fun _ => fun
  | [d1, d2] => { results := [.lit (.bool false)], args := [d1, d2] }
  | _ => none }
def FnExactTrueColumnWrongFalsely : Prop := fnExactTrueColumnRow.holds Tryz.pinned (OpenSpec.ofChange fnExactTrueColumnWrong)

/-- 'laws.FnExactTrueRow': WHATEVER THE INPUT: true; the input reads as it did. -/
def fnExactTrueRowSpec : ChangeSpec := { name := "fnExactTrueRow", fn := fun _ => fun
  | [d1, d2, d3] => { results := [.lit (.bool true)], args := [d1, d2, d3] }
  | _ => none }
def fnExactTrueRowRow : OpenClaim := { program := "ytfjkoifpdoemdaagreat", sum := "650277649f828ae551518226d2a1d357e342882e2837672072af1281795e6de8", func := "loop.example/g00089/laws.FnExactTrueRow", spec := "fnExactTrueRow", unfollowed := true, recurses := true, apart := false }
def FnExactTrueRowSaid : Prop := fnExactTrueRowRow.holds Tryz.pinned (OpenSpec.ofChange fnExactTrueRowSpec)

/-- ITS FALSE NEIGHBOUR: 'it returns false'. Refute it at one input. -/
def fnExactTrueRowWrong : ChangeSpec := { name := "fnExactTrueRow", fn := fun _ => fun
  | [d1, d2, d3] => { results := [.lit (.bool false)], args := [d1, d2, d3] }
  | _ => none }
def FnExactTrueRowWrongFalsely : Prop := fnExactTrueRowRow.holds Tryz.pinned (OpenSpec.ofChange fnExactTrueRowWrong)

/-- 'laws.FnExactQuietArchive': WHATEVER THE INPUT: true; the input reads as it did. -/
def fnExactQuietArchiveSpec : ChangeSpec := { name := "fnExactQuietArchive", fn := fun _ => fun
  | [d] => { results := [.lit (.bool true)], args := [d] }
  | _ => none }
def fnExactQuietArchiveRow : OpenClaim := { program := "ytfjkoifpdoemdaagreat", sum := "650277649f828ae551518226d2a1d357e342882e2837672072af1281795e6de8", func := "loop.example/g00089/laws.FnExactQuietArchive", spec := "fnExactQuietArchive", inPlace := ["internal/bytealg.abigen_runtime_cmpstring"], unfollowed := true, recurses := true, apart := false }
def FnExactQuietArchiveSaid : Prop := fnExactQuietArchiveRow.holds Tryz.pinned (OpenSpec.ofChange fnExactQuietArchiveSpec)

/-- ITS FALSE NEIGHBOUR: 'it returns false'. Refute it at one input. -/
def fnExactQuietArchiveWrong : ChangeSpec := { name := "fnExactQuietArchive", fn := fun _ => fun
  | [d] => { results := [.lit (.bool false)], args := [d] }
  | _ => none }
def FnExactQuietArchiveWrongFalsely : Prop := fnExactQuietArchiveRow.holds Tryz.pinned (OpenSpec.ofChange fnExactQuietArchiveWrong)

/-- 'laws.FnExactTrueItem': WHATEVER THE INPUT: true; the input reads as it did. -/
def fnExactTrueItemSpec : ChangeSpec := { name := "fnExactTrueItem", fn := fun _ => fun
  | [d1, d2] => { results := [.lit (.bool true)], args := [d1, d2] }
  | _ => none }
def fnExactTrueItemRow : OpenClaim := { program := "ytfjkoifpdoemdaagreat", sum := "650277649f828ae551518226d2a1d357e342882e2837672072af1281795e6de8", func := "loop.example/g00089/laws.FnExactTrueItem", spec := "fnExactTrueItem", inPlace := ["internal/bytealg.abigen_runtime_cmpstring"], unfollowed := true, recurses := true, apart := false }
def FnExactTrueItemSaid : Prop := fnExactTrueItemRow.holds Tryz.pinned (OpenSpec.ofChange fnExactTrueItemSpec)

/-- ITS FALSE NEIGHBOUR: 'it returns false'. Refute it at one input. -/
def fnExactTrueItemWrong : ChangeSpec := { name := "fnExactTrueItem", fn := fun _ => fun
  | [d1, d2] => { results := [.lit (.bool false)], args := [d1, d2] }
  | _ => none }
def FnExactTrueItemWrongFalsely : Prop := fnExactTrueItemRow.holds Tryz.pinned (OpenSpec.ofChange fnExactTrueItemWrong)

/-- 'laws.FnExactTruthOf': WHATEVER THE INPUT: true; the input reads as it did. -/
def fnExactTruthOfSpec : ChangeSpec := { name := "fnExactTruthOf", fn := fun _ => fun
  | [d] => { results := [.lit (.bool true)], args := [d] }
  | _ => none }
def fnExactTruthOfRow : OpenClaim := { program := "ytfjkoifpdoemdaagreat", sum := "650277649f828ae551518226d2a1d357e342882e2837672072af1281795e6de8", func := "loop.example/g00089/laws.FnExactTruthOf", spec := "fnExactTruthOf", inPlace := ["internal/bytealg.abigen_runtime_cmpstring"], unfollowed := true, recurses := true, apart := false }
def FnExactTruthOfSaid : Prop := fnExactTruthOfRow.holds Tryz.pinned (OpenSpec.ofChange fnExactTruthOfSpec)

/-- ITS FALSE NEIGHBOUR: 'it returns false'. Refute it at one input. -/
def fnExactTruthOfWrong : ChangeSpec := { name := "fnExactTruthOf", fn := fun _ => fun
  | [d] => { results := [.lit (.bool false)], args := [d] }
  | _ => none }
def FnExactTruthOfWrongFalsely : Prop := fnExactTruthOfRow.holds Tryz.pinned (OpenSpec.ofChange fnExactTruthOfWrong)

/- THE SECOND FORM. 'bulk': how many values and letters a reading holds, each counted each time it is reached (what is shared counts as often as it is met; a slice's spare places count too). A statement '..UptoSaid' is the law's where the arguments, and the package variables that the reading takes, are together of bulk at most 1048576: NARROWER than '..Said'. Prove '..Said' where nothing that the law and all that it calls make is longer than what came in: it says more and counts as full. Else prove '..UptoSaid'. A law counts once. -/
mutual
def uptoBulk {H : Type} : DataW H → Nat
  | .lit (.string bytes) => bytes.length + 1
  | .lit _ => 1
  | .nil => 1
  | .ptr d => uptoBulk d + 1
  | .slice elems spare => uptoBulkAll elems + uptoBulkAll spare + 1
  | .agg parts => uptoBulkAll parts + 1
  | .iface _ d => uptoBulk d + 1
  | .map entries => uptoBulkEntries entries + 1
  | .held _ => 1
def uptoBulkAll {H : Type} : List (DataW H) → Nat
  | [] => 0
  | d :: r => uptoBulk d + uptoBulkAll r
def uptoBulkEntries {H : Type} : List (Lit × DataW H) → Nat
  | [] => 0
  | x :: r => uptoBulkEntry x + uptoBulkEntries r
def uptoBulkEntry {H : Type} : Lit × DataW H → Nat
  | (.string bytes, d) => bytes.length + uptoBulk d + 1
  | (_, d) => uptoBulk d + 1
 end
def uptoSmall : (H : Type) → List (DataW H) → Bool := fun _ ds => decide (uptoBulkAll ds ≤ 1048576)
def OpenSpec.upto (s : _root_.Go.ChangeSpec) : _root_.Go.OpenSpec := { _root_.Go.OpenSpec.ofChange s with cond := some uptoSmall }

/-- 'laws.FnExactTrueColumn', WHERE WHAT IT READS IS OF BULK AT MOST 1048576: true; the input reads as it did. -/
def fnExactTrueColumnUptoRow : OpenClaim := { program := "ytfjkoifpdoemdaagreat", sum := "650277649f828ae551518226d2a1d357e342882e2837672072af1281795e6de8", func := "loop.example/g00089/laws.FnExactTrueColumn", spec := "fnExactTrueColumn", unfollowed := true, recurses := true, apart := false, narrowed := true }
def FnExactTrueColumnUptoSaid : Prop := fnExactTrueColumnUptoRow.holds Tryz.pinned (OpenSpec.upto fnExactTrueColumnSpec)

/-- 'laws.FnExactTrueRow', WHERE WHAT IT READS IS OF BULK AT MOST 1048576: true; the input reads as it did. -/
def fnExactTrueRowUptoRow : OpenClaim := { program := "ytfjkoifpdoemdaagreat", sum := "650277649f828ae551518226d2a1d357e342882e2837672072af1281795e6de8", func := "loop.example/g00089/laws.FnExactTrueRow", spec := "fnExactTrueRow", unfollowed := true, recurses := true, apart := false, narrowed := true }
def FnExactTrueRowUptoSaid : Prop := fnExactTrueRowUptoRow.holds Tryz.pinned (OpenSpec.upto fnExactTrueRowSpec)

/-- 'laws.FnExactQuietArchive', WHERE WHAT IT READS IS OF BULK AT MOST 1048576: true; the input reads as it did. -/
def fnExactQuietArchiveUptoRow : OpenClaim := { program := "ytfjkoifpdoemdaagreat", sum := "650277649f828ae551518226d2a1d357e342882e2837672072af1281795e6de8", func := "loop.example/g00089/laws.FnExactQuietArchive", spec := "fnExactQuietArchive", inPlace := ["internal/bytealg.abigen_runtime_cmpstring"], unfollowed := true, recurses := true, apart := false, narrowed := true }
def FnExactQuietArchiveUptoSaid : Prop := fnExactQuietArchiveUptoRow.holds Tryz.pinned (OpenSpec.upto fnExactQuietArchiveSpec)

/-- 'laws.FnExactTrueItem', WHERE WHAT IT READS IS OF BULK AT MOST 1048576: true; the input reads as it did. -/
def fnExactTrueItemUptoRow : OpenClaim := { program := "ytfjkoifpdoemdaagreat", sum := "650277649f828ae551518226d2a1d357e342882e2837672072af1281795e6de8", func := "loop.example/g00089/laws.FnExactTrueItem", spec := "fnExactTrueItem", inPlace := ["internal/bytealg.abigen_runtime_cmpstring"], unfollowed := true, recurses := true, apart := false, narrowed := true }
def FnExactTrueItemUptoSaid : Prop := fnExactTrueItemUptoRow.holds Tryz.pinned (OpenSpec.upto fnExactTrueItemSpec)

/-- 'laws.FnExactTruthOf', WHERE WHAT IT READS IS OF BULK AT MOST 1048576: true; the input reads as it did. -/
def fnExactTruthOfUptoRow : OpenClaim := { program := "ytfjkoifpdoemdaagreat", sum := "650277649f828ae551518226d2a1d357e342882e2837672072af1281795e6de8", func := "loop.example/g00089/laws.FnExactTruthOf", spec := "fnExactTruthOf", inPlace := ["internal/bytealg.abigen_runtime_cmpstring"], unfollowed := true, recurses := true, apart := false, narrowed := true }
def FnExactTruthOfUptoSaid : Prop := fnExactTruthOfUptoRow.holds Tryz.pinned (OpenSpec.upto fnExactTruthOfSpec)

end Rows
end Go.Proofs.YtfjkoifpdoemdaaGreat
