/-
  WHAT IS PROVED: shucklaw16.RunZones answers true for both arguments: a variable that is read ahead of its value throws its name, and behind it it is read; and the known run stands. Its package-level variables start as the text lays them.
-/
import Derived.Test.YtbccefdijpmkbaaGreatDoorZf
import Derived.Test.YtbccefdijpmkbaaGreatDoorZg
import Derived.Test.YtbccefdijpmkbaaGreatDoorZh
import Derived.Test.YtbccefdijpmkbaaGreatDoorZi
import Derived.Test.YtbccefdijpmkbaaGreatDoorZd
set_option linter.constructorNameAsVariable false
set_option linter.unusedVariables false
set_option linter.unusedSimpArgs false
set_option linter.unusedSectionVars false
set_option linter.unusedVariables false
set_option linter.unusedSectionVars false
set_option maxRecDepth 100000
namespace Go.Proofs.YtbccefdijpmkbaaGreatDoor
open Go Go.Ev Go.ChangeShapes Go.WideShapes Go.ChangeAt Go.RowKit
theorem runZones_holds : Rows.RunZonesSaid :=
  OpenClaim.holds_of_wide 5 Tryz.f5 rfl rfl rfl rfl rfl rfl rfl ⟨rfl, rfl, rfl, rfl, rfl⟩ rfl rfl rfl rfl rfl zh_fn Tryz.func5 zh_closed zh_inst zh_wrap
    (fun os started H enc _ => lifted os started H enc)

theorem card_holds : Rows.RunZonesCardSaid :=
  Claim7.holds_tied_plain_at .later [] [.pinned, .data, .data, .data, .data, .sentinel, .sentinel] true (true, "7d7d0a87855ad8633b0214fe1f39a242fd46484e71f1bc93bf2dab4c0dcb3433") true
    runZones_holds (fun _ h => by cases h) zg_wf (fun _ h => by cases h) z_row_tie rfl ⟨rfl, rfl⟩ zg_main rfl
    (fun f fn hf hfn => by
      obtain rfl : f = 5 := Option.some.inj (zh_fn.symm.trans hf) |>.symm
      obtain rfl : fn = Tryz.f5 := (Option.some.inj (Tryz.func5.symm.trans hfn)).symm
      exact ⟨zg_looks, fun j t ht => by
        rw [Tryz.params5] at ht
        have hm : t ∈ [4] := by simpa using Array.mem_of_getElem? ht
        exact (show Tryz.pinned.checked.prog.wantsStandIn t = false by simpa using List.all_eq_true.1 zg_want t hm)⟩)
    zg_goes
#print axioms card_holds
end Go.Proofs.YtbccefdijpmkbaaGreatDoor
