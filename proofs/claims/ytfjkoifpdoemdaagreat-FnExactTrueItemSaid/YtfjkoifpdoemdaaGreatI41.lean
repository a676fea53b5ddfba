/-
  Part 41 of the proof.
-/
import Derived.Test.YtfjkoifpdoemdaaGreatI38
import Derived.Test.YtfjkoifpdoemdaaGreatI40
import Derived.Test.YtfjkoifpdoemdaaGreatI09
import Derived.Test.YtfjkoifpdoemdaaGreatI28
set_option maxHeartbeats 8000000
set_option maxRecDepth 100000
set_option linter.unusedVariables false
set_option linter.unusedSimpArgs false
namespace Go.Proofs.YtfjkoifpdoemdaaGreat
open Go.RowKit Go.Lib Go.Sort
end Go.Proofs.YtfjkoifpdoemdaaGreat
