/-
  Part 43 of the proof.
-/
import Derived.Test.YtfjkoifpdoemdaaGreatI41
set_option maxHeartbeats 8000000
set_option maxRecDepth 100000
set_option linter.unusedVariables false
set_option linter.unusedSimpArgs false
open Go.Value (int)
open Go.IntKind (i64)
namespace Go.Proofs.YtfjkoifpdoemdaaGreat
open Go.RowKit Go.Lib Go.Sort
def MyR(x:Int × List UInt8)(w:World)(e:Ending)(w':World):Prop :=
 ∃v fs,e= .returned (.agg #[int i64 x.1,v])∧Ag w' fs v x.2∧Az w.heap.size w' fs∧Below w.heap.size w w'
end Go.Proofs.YtfjkoifpdoemdaaGreat
