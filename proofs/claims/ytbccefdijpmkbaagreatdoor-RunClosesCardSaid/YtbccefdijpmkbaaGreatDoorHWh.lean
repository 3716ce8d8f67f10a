/-
  Part of a proof: closed facts of this seat's program that the row and the card of RunCloses ask for; no conditions.
-/
import Derived.Test.YtbccefdijpmkbaaGreatDoorCards
import Derived.ProofKit
import Derived.LaidMore
import Derived.OpenShut
import Derived.Stop.Joined
import Derived.SevenTiedAt
import Derived.Lay
set_option linter.constructorNameAsVariable false
set_option linter.unusedVariables false
set_option linter.unusedSimpArgs false
set_option linter.unusedSectionVars false
set_option maxRecDepth 100000
namespace Go.Proofs.YtbccefdijpmkbaaGreatDoor
open Go Go.ChangeShapes Go.WideShapes Go.ChangeAt Go.RowKit
theorem zh_fn : Tryz.pinned.checked.prog.funcNamed Rows.runClosesRow.func = some 4 := by kernel_rfl
theorem zh_inst : Tryz.f4.isInstance Tryz.pinned.checked.prog Rows.runClosesRow.origin Rows.runClosesRow.targs := of_decide_eq_true (by kernel_rfl)
theorem zh_wrap : Tryz.f4.isWrapper Tryz.pinned.checked.prog Rows.runClosesRow.wrapper Rows.runClosesRow.mainSum := by
  unfold Func.isWrapper; first | (rw [if_pos (by decide +kernel)]; kernel_rfl) | (rw [if_neg (by decide +kernel)]; exact ⟨rfl, rfl⟩)
theorem zg_wf : Rows.runClosesRow.wfByText (OpenSpec.ofChange Rows.runClosesSpec) = true := by kernel_rfl
theorem zg_main : Tryz.pinned.checked.prog.mainIs = some (true, "7d7d0a87855ad8633b0214fe1f39a242fd46484e71f1bc93bf2dab4c0dcb3433".toList) := by kernel_rfl
theorem zg_looks : true = Tryz.pinned.checked.prog.looks [] := by kernel_rfl
theorem zg_want : ([3].all fun u => !Tryz.pinned.checked.prog.wantsStandIn u) = true := by kernel_rfl
end Go.Proofs.YtbccefdijpmkbaaGreatDoor
