/-
  WHAT IS PROVED: shucklaw16.RunCloses answers true whatever its number is: functions that are made in rounds of a ForOf keep each its own variable, those of a For share one; and the known run stands. Its package-level variables start as the text lays them.
-/
import Derived.Test.YtbccefdijpmkbaaGreatDoorHWc
import Derived.Test.YtbccefdijpmkbaaGreatDoorHWh
import Derived.Test.YtbccefdijpmkbaaGreatDoorHWj
import Derived.Test.YtbccefdijpmkbaaGreatDoorHWg
import Derived.Test.YtbccefdijpmkbaaGreatDoorHWt
set_option linter.constructorNameAsVariable false
set_option linter.unusedVariables false
set_option linter.unusedSimpArgs false
set_option linter.unusedSectionVars false
set_option linter.unusedVariables false
set_option linter.unusedSectionVars false
set_option maxRecDepth 100000
namespace Go.Proofs.YtbccefdijpmkbaaGreatDoor
open Go Go.Ev Go.ChangeShapes Go.WideShapes Go.ChangeAt Go.RowKit
theorem law_holds : Rows.RunClosesSaid :=
  OpenClaim.holds_of_wide 4 Tryz.f4 rfl rfl rfl rfl rfl rfl rfl ⟨rfl, rfl, rfl, rfl, rfl⟩ rfl rfl rfl rfl rfl zh_fn Tryz.func4 zh_closed zh_inst zh_wrap
    (fun os started H enc _ => lifted os started H enc)
theorem card_holds : Rows.RunClosesCardSaid :=
  Claim7.holds_tied_plain_at .later [] [.sentinel, .sentinel, .data, .data, .data, .pinned, .data] true (true, "7d7d0a87855ad8633b0214fe1f39a242fd46484e71f1bc93bf2dab4c0dcb3433") true
    law_holds (fun _ h => by cases h) zg_wf (fun _ h => by cases h) z_row_tie rfl ⟨rfl, rfl⟩ zg_main rfl
    (fun f fn hf hfn => by
      obtain rfl : f = 4 := Option.some.inj (zh_fn.symm.trans hf) |>.symm
      obtain rfl : fn = Tryz.f4 := (Option.some.inj (Tryz.func4.symm.trans hfn)).symm
      exact ⟨zg_looks, fun j t ht => by
        rw [Tryz.params4] at ht
        have hm : t ∈ [3] := by simpa using Array.mem_of_getElem? ht
        exact (show Tryz.pinned.checked.prog.wantsStandIn t = false by simpa using List.all_eq_true.1 zg_want t hm)⟩)
    zg_goes
#print axioms card_holds
end Go.Proofs.YtbccefdijpmkbaaGreatDoor
