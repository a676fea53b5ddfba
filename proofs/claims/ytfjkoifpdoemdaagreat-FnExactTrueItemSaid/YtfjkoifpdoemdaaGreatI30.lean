/-
  Part 30 of the proof.
-/
import Derived.Test.YtfjkoifpdoemdaaGreatI18
import Derived.Test.YtfjkoifpdoemdaaGreatI05
import Derived.Test.YtfjkoifpdoemdaaGreatI26
set_option maxHeartbeats 8000000
set_option maxRecDepth 100000
set_option linter.unusedVariables false
set_option linter.unusedSimpArgs false
namespace Go.Proofs.YtfjkoifpdoemdaaGreat
open Go.RowKit Go.Lib Go.Sort
end Go.Proofs.YtfjkoifpdoemdaaGreat
