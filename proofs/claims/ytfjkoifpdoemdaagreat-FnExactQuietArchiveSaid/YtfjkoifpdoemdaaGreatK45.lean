/-
  Part 45 of the proof; the last part states and proves the statement.
-/
import Derived.Test.YtfjkoifpdoemdaaGreatK44
import Derived.Test.YtfjkoifpdoemdaaGreatK01
import Derived.ProofKit
import Derived.OpenShut
import Derived.ShutString
import Derived.ChangeOld
import Derived.Below
set_option maxHeartbeats 8000000
set_option maxRecDepth 100000
set_option linter.unusedVariables false
set_option linter.unusedSimpArgs false
namespace Go.Proofs.YtfjkoifpdoemdaaGreat.fnExactQuietArchive
open Go.ChangeShapes Go.WideShapes Go.ChangeAt Go.RowKit
set_option linter.unusedVariables false
theorem closed:joinedFacts Tryz.prog 5 Tryz.f5 Rows.fnExactQuietArchiveSpec Rows.fnExactQuietArchiveRow=true:=by
 unfold joinedFacts;repeat' (with_reducible refine Bool.and_eq_true_iff.2 ⟨?_,?_⟩)
 all_goals (as_aux_lemma => kernel_rfl)
end Go.Proofs.YtfjkoifpdoemdaaGreat.fnExactQuietArchive
