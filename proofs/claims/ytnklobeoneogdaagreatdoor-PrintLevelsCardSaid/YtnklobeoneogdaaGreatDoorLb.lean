/-
  Part of a proof: an evaluator of the model's code over abstract memory, and that it is sound against the model's weakest preconditions; no conditions.
-/
import Derived.Test.YtnklobeoneogdaaGreatDoorLa
set_option linter.constructorNameAsVariable false
set_option linter.unusedVariables false
set_option linter.unusedSimpArgs false
set_option linter.unusedSectionVars false
set_option linter.unusedVariables false
set_option linter.unusedSectionVars false
set_option maxRecDepth 100000
namespace Go.Proofs.YtnklobeoneogdaaGreatDoor
open Go Go.Ev
noncomputable section
theorem ev_signs : (codes.all fun c => callF (E2 fun _ _ _ _ => none) 200 false 3 (nodeV (.i .i64 (Int.ofNat 24)) (.s c)) (h0S 0 2) isT) = true := by decide +kernel
theorem ev_none : callF (E2 (unT codes)) 200 false 3 (nodeV (.i .i64 (Int.ofNat 24)) uT) (h0S 0 2) isT = true := by decide +kernel
end
end Go.Proofs.YtnklobeoneogdaaGreatDoor
