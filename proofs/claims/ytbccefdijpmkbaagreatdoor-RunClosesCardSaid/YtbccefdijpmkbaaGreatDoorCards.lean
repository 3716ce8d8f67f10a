/-
  DERIVED. GIVEN WITH THE SEED: THE CARDS: each row of YtbccefdijpmkbaaGreatDoorRows.lean that lists a variable, with what it lists TIED to the program's text (the seventh form; the later family's looks); each row that meets fmt, with fmt's text TOLD by the authors' own Lean function (tested against real Go, not proved from fmt's source: count such statements apart). THE CARD IS WHAT COUNTS. Prove the row's statement (the work); the ties are given (YtbccefdijpmkbaaGreatDoorTie.lean); close each card by the builder's one call (the guide's Derived/Test/ToyasCard.lean, 'card_holds'). Laid BY PROGRAM, IN A SANDBOX (cutbox-door.mjs). By AI agents, Wed Nov 11 2026. No macro, syntax, notation, axiom, sorry.
-/
import Derived.Test.YtbccefdijpmkbaaGreatDoorRows
import GoSem.ClaimSeven
namespace Go.Proofs.YtbccefdijpmkbaaGreatDoor
namespace Rows

/-- THE TIED CARD OF 'shucklaw16.RunFinally'. -/
def runFinallyCard : Claim7 := { stood := { row := runFinallyRow, standIns := [], harness := (true, "7d7d0a87855ad8633b0214fe1f39a242fd46484e71f1bc93bf2dab4c0dcb3433"), looks := true }, kinds := [], alts := [], laidByText := true, laidKinds := [.sentinel, .sentinel, .data, .data, .data, .pinned, .data], laidTests := true, laidLooks := .later }
def RunFinallyCardSaid : Prop := Claim7.holds Tryz.pinned (.plain (OpenSpec.ofChange runFinallySpec)) runFinallyCard

/-- THE TIED CARD OF 'shucklaw16.RunCloses'. -/
def runClosesCard : Claim7 := { stood := { row := runClosesRow, standIns := [], harness := (true, "7d7d0a87855ad8633b0214fe1f39a242fd46484e71f1bc93bf2dab4c0dcb3433"), looks := true }, kinds := [], alts := [], laidByText := true, laidKinds := [.sentinel, .sentinel, .data, .data, .data, .pinned, .data], laidTests := true, laidLooks := .later }
def RunClosesCardSaid : Prop := Claim7.holds Tryz.pinned (.plain (OpenSpec.ofChange runClosesSpec)) runClosesCard

/-- THE TIED CARD OF 'shucklaw16.RunZones'. -/
def runZonesCard : Claim7 := { stood := { row := runZonesRow, standIns := [], harness := (true, "7d7d0a87855ad8633b0214fe1f39a242fd46484e71f1bc93bf2dab4c0dcb3433"), looks := true }, kinds := [], alts := [], laidByText := true, laidKinds := [.pinned, .data, .data, .data, .data, .sentinel, .sentinel], laidTests := true, laidLooks := .later }
def RunZonesCardSaid : Prop := Claim7.holds Tryz.pinned (.plain (OpenSpec.ofChange runZonesSpec)) runZonesCard

/-- THE SECOND FORM's CARD OF 'shucklaw16.RunFinally'. -/
def runFinallyUptoCard : Claim7 := { stood := { row := runFinallyUptoRow, standIns := [], harness := (true, "7d7d0a87855ad8633b0214fe1f39a242fd46484e71f1bc93bf2dab4c0dcb3433"), looks := true }, kinds := [], alts := [], laidByText := true, laidKinds := [.sentinel, .sentinel, .data, .data, .data, .pinned, .data], laidTests := true, laidLooks := .later }
def RunFinallyUptoCardSaid : Prop := Claim7.holds Tryz.pinned (.plain (OpenSpec.upto runFinallySpec)) runFinallyUptoCard

/-- THE SECOND FORM's CARD OF 'shucklaw16.RunCloses'. -/
def runClosesUptoCard : Claim7 := { stood := { row := runClosesUptoRow, standIns := [], harness := (true, "7d7d0a87855ad8633b0214fe1f39a242fd46484e71f1bc93bf2dab4c0dcb3433"), looks := true }, kinds := [], alts := [], laidByText := true, laidKinds := [.sentinel, .sentinel, .data, .data, .data, .pinned, .data], laidTests := true, laidLooks := .later }
def RunClosesUptoCardSaid : Prop := Claim7.holds Tryz.pinned (.plain (OpenSpec.upto runClosesSpec)) runClosesUptoCard

/-- THE SECOND FORM's CARD OF 'shucklaw16.RunZones'. -/
def runZonesUptoCard : Claim7 := { stood := { row := runZonesUptoRow, standIns := [], harness := (true, "7d7d0a87855ad8633b0214fe1f39a242fd46484e71f1bc93bf2dab4c0dcb3433"), looks := true }, kinds := [], alts := [], laidByText := true, laidKinds := [.pinned, .data, .data, .data, .data, .sentinel, .sentinel], laidTests := true, laidLooks := .later }
def RunZonesUptoCardSaid : Prop := Claim7.holds Tryz.pinned (.plain (OpenSpec.upto runZonesSpec)) runZonesUptoCard
end Rows
end Go.Proofs.YtbccefdijpmkbaaGreatDoor
