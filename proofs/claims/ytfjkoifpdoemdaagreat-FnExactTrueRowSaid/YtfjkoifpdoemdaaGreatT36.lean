/-
  Part 36 of the proof; the last part states and proves the statement.
-/
import Derived.Test.YtfjkoifpdoemdaaGreatT33
import Derived.Test.YtfjkoifpdoemdaaGreatT35
import Derived.Test.YtfjkoifpdoemdaaGreatT09
import Derived.Test.YtfjkoifpdoemdaaGreatT28
set_option maxHeartbeats 8000000
set_option maxRecDepth 100000
set_option linter.unusedVariables false
set_option linter.unusedSimpArgs false
namespace Go.Proofs.YtfjkoifpdoemdaaGreat
open Go.RowKit Go.Lib Go.Sort
end Go.Proofs.YtfjkoifpdoemdaaGreat
