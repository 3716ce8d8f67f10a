/-
  Part of a proof: closed facts of this seat's program that the row of RunCloses asks for; no conditions.
-/
import Derived.Test.YtbccefdijpmkbaaGreatDoorCards
import Derived.ProofKit
import Derived.LaidMore
import Derived.OpenShut
import Derived.Stop.Joined
import Derived.SevenTiedAt
import Derived.Lay
set_option linter.constructorNameAsVariable false
set_option linter.unusedVariables false
set_option linter.unusedSimpArgs false
set_option linter.unusedSectionVars false
set_option maxRecDepth 100000
set_option maxHeartbeats 100000000
namespace Go.Proofs.YtbccefdijpmkbaaGreatDoor
open Go Go.ChangeShapes Go.WideShapes Go.ChangeAt Go.RowKit
theorem zh_closed : joinedFacts Tryz.pinned.checked.prog 4 Tryz.f4 Rows.runClosesSpec Rows.runClosesRow = true := by
  unfold joinedFacts
  simp only [Bool.and_eq_true]
  and_intros
  all_goals as_aux_lemma => kernel_rfl
end Go.Proofs.YtbccefdijpmkbaaGreatDoor
