/-
  Part of a proof: an evaluator of the model's code over abstract memory, and that it is sound against the model's weakest preconditions; no conditions.
-/
import Derived.Test.YtbccefdijpmkbaaGreatDoorZb
set_option linter.constructorNameAsVariable false
set_option linter.unusedVariables false
set_option linter.unusedSimpArgs false
set_option linter.unusedSectionVars false
set_option maxRecDepth 100000
namespace Go.Proofs.YtbccefdijpmkbaaGreatDoor
open Go Go.Ev
theorem ev_false : callF E2 200 false 5 (.c (.b false) .n) (h0N 0) isT = true := by decide +kernel
end Go.Proofs.YtbccefdijpmkbaaGreatDoor
