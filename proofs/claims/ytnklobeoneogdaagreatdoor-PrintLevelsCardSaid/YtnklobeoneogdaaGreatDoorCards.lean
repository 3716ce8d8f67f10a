/-
  DERIVED. GIVEN WITH THE SEED: THE CARDS: each row of YtnklobeoneogdaaGreatDoorRows.lean that lists a variable, with what it lists TIED to the program's text (the seventh form; the later family's looks); each row that meets fmt, with fmt's text TOLD by the authors' own Lean function (tested against real Go, not proved from fmt's source: count such statements apart). THE CARD IS WHAT COUNTS. Prove the row's statement (the work); the ties are given (YtnklobeoneogdaaGreatDoorTie.lean); close each card by the builder's one call (the guide's Derived/Test/ToyasCard.lean, 'card_holds'). Laid BY PROGRAM, IN A SANDBOX (cutbox-door.mjs). By AI agents, Wed Nov 11 2026. No macro, syntax, notation, axiom, sorry.
-/
import Derived.Test.YtnklobeoneogdaaGreatDoorRows
import GoSem.ClaimSeven
namespace Go.Proofs.YtnklobeoneogdaaGreatDoor
namespace Rows

/-- THE TIED CARD OF 'shucklaw6.PrintLevels'. -/
def printLevelsCard : Claim7 := { stood := { row := printLevelsRow, standIns := [], harness := (true, "e67a23791c41e02747293c7bb005e7bf1315b4a57c481604e44df013be241cce"), looks := true }, kinds := [], alts := [], laidByText := true, laidKinds := [.data, .data, .data, .data, .sentinel, .sentinel, .listed, .data, .pinned], laidTests := true, laidLooks := .later }
def PrintLevelsCardSaid : Prop := Claim7.holds Tryz.pinned (.plain (OpenSpec.ofChange printLevelsSpec)) printLevelsCard

/-- THE TIED CARD OF 'shucklaw6.PrintStands'. -/
def printStandsCard : Claim7 := { stood := { row := printStandsRow, standIns := [], harness := (true, "e67a23791c41e02747293c7bb005e7bf1315b4a57c481604e44df013be241cce"), looks := true }, kinds := [], alts := [], laidByText := true, laidKinds := [.data, .data, .data, .data, .sentinel, .sentinel, .listed, .data, .pinned], laidTests := true, laidLooks := .later }
def PrintStandsCardSaid : Prop := Claim7.holds Tryz.pinned (.plain (OpenSpec.ofChange printStandsSpec)) printStandsCard

/-- THE TIED CARD OF 'shucklaw6.PrintLeast'. -/
def printLeastCard : Claim7 := { stood := { row := printLeastRow, standIns := [], harness := (true, "e67a23791c41e02747293c7bb005e7bf1315b4a57c481604e44df013be241cce"), looks := true }, kinds := [], alts := [], laidByText := true, laidKinds := [.data, .data, .data, .data, .sentinel, .sentinel, .listed, .data, .pinned], laidTests := true, laidLooks := .later }
def PrintLeastCardSaid : Prop := Claim7.holds Tryz.pinned (.plain (OpenSpec.ofChange printLeastSpec)) printLeastCard

/-- THE TIED CARD OF 'shucklaw6.PrintRound'. -/
def printRoundCard : Claim7 := { stood := { row := printRoundRow, standIns := [], harness := (true, "e67a23791c41e02747293c7bb005e7bf1315b4a57c481604e44df013be241cce"), looks := true }, kinds := [], alts := [], laidByText := true, laidKinds := [.data, .data, .data, .data, .sentinel, .sentinel, .listed, .data, .pinned], laidTests := true, laidLooks := .later }
def PrintRoundCardSaid : Prop := Claim7.holds Tryz.pinned (.plain (OpenSpec.ofChange printRoundSpec)) printRoundCard

/-- THE TIED CARD OF 'shucklaw6.PrintJoins'. -/
def printJoinsCard : Claim7 := { stood := { row := printJoinsRow, standIns := [], harness := (true, "e67a23791c41e02747293c7bb005e7bf1315b4a57c481604e44df013be241cce"), looks := true }, kinds := [], alts := [], laidByText := true, laidKinds := [.data, .data, .data, .data, .sentinel, .sentinel, .listed, .data, .pinned], laidTests := true, laidLooks := .later }
def PrintJoinsCardSaid : Prop := Claim7.holds Tryz.pinned (.plain (OpenSpec.ofChange printJoinsSpec)) printJoinsCard

/-- THE TIED CARD OF 'shucklaw6.PrintDepth'. -/
def printDepthCard : Claim7 := { stood := { row := printDepthRow, standIns := [], harness := (true, "e67a23791c41e02747293c7bb005e7bf1315b4a57c481604e44df013be241cce"), looks := true }, kinds := [], alts := [], laidByText := true, laidKinds := [.data, .data, .data, .data, .sentinel, .sentinel, .listed, .data, .pinned], laidTests := true, laidLooks := .later }
def PrintDepthCardSaid : Prop := Claim7.holds Tryz.pinned (.plain (OpenSpec.ofChange printDepthSpec)) printDepthCard

/-- THE SECOND FORM's CARD OF 'shucklaw6.PrintLevels'. -/
def printLevelsUptoCard : Claim7 := { stood := { row := printLevelsUptoRow, standIns := [], harness := (true, "e67a23791c41e02747293c7bb005e7bf1315b4a57c481604e44df013be241cce"), looks := true }, kinds := [], alts := [], laidByText := true, laidKinds := [.data, .data, .data, .data, .sentinel, .sentinel, .listed, .data, .pinned], laidTests := true, laidLooks := .later }
def PrintLevelsUptoCardSaid : Prop := Claim7.holds Tryz.pinned (.plain (OpenSpec.upto printLevelsSpec)) printLevelsUptoCard

/-- THE SECOND FORM's CARD OF 'shucklaw6.PrintStands'. -/
def printStandsUptoCard : Claim7 := { stood := { row := printStandsUptoRow, standIns := [], harness := (true, "e67a23791c41e02747293c7bb005e7bf1315b4a57c481604e44df013be241cce"), looks := true }, kinds := [], alts := [], laidByText := true, laidKinds := [.data, .data, .data, .data, .sentinel, .sentinel, .listed, .data, .pinned], laidTests := true, laidLooks := .later }
def PrintStandsUptoCardSaid : Prop := Claim7.holds Tryz.pinned (.plain (OpenSpec.upto printStandsSpec)) printStandsUptoCard

/-- THE SECOND FORM's CARD OF 'shucklaw6.PrintLeast'. -/
def printLeastUptoCard : Claim7 := { stood := { row := printLeastUptoRow, standIns := [], harness := (true, "e67a23791c41e02747293c7bb005e7bf1315b4a57c481604e44df013be241cce"), looks := true }, kinds := [], alts := [], laidByText := true, laidKinds := [.data, .data, .data, .data, .sentinel, .sentinel, .listed, .data, .pinned], laidTests := true, laidLooks := .later }
def PrintLeastUptoCardSaid : Prop := Claim7.holds Tryz.pinned (.plain (OpenSpec.upto printLeastSpec)) printLeastUptoCard

/-- THE SECOND FORM's CARD OF 'shucklaw6.PrintRound'. -/
def printRoundUptoCard : Claim7 := { stood := { row := printRoundUptoRow, standIns := [], harness := (true, "e67a23791c41e02747293c7bb005e7bf1315b4a57c481604e44df013be241cce"), looks := true }, kinds := [], alts := [], laidByText := true, laidKinds := [.data, .data, .data, .data, .sentinel, .sentinel, .listed, .data, .pinned], laidTests := true, laidLooks := .later }
def PrintRoundUptoCardSaid : Prop := Claim7.holds Tryz.pinned (.plain (OpenSpec.upto printRoundSpec)) printRoundUptoCard

/-- THE SECOND FORM's CARD OF 'shucklaw6.PrintJoins'. -/
def printJoinsUptoCard : Claim7 := { stood := { row := printJoinsUptoRow, standIns := [], harness := (true, "e67a23791c41e02747293c7bb005e7bf1315b4a57c481604e44df013be241cce"), looks := true }, kinds := [], alts := [], laidByText := true, laidKinds := [.data, .data, .data, .data, .sentinel, .sentinel, .listed, .data, .pinned], laidTests := true, laidLooks := .later }
def PrintJoinsUptoCardSaid : Prop := Claim7.holds Tryz.pinned (.plain (OpenSpec.upto printJoinsSpec)) printJoinsUptoCard

/-- THE SECOND FORM's CARD OF 'shucklaw6.PrintDepth'. -/
def printDepthUptoCard : Claim7 := { stood := { row := printDepthUptoRow, standIns := [], harness := (true, "e67a23791c41e02747293c7bb005e7bf1315b4a57c481604e44df013be241cce"), looks := true }, kinds := [], alts := [], laidByText := true, laidKinds := [.data, .data, .data, .data, .sentinel, .sentinel, .listed, .data, .pinned], laidTests := true, laidLooks := .later }
def PrintDepthUptoCardSaid : Prop := Claim7.holds Tryz.pinned (.plain (OpenSpec.upto printDepthSpec)) printDepthUptoCard
end Rows
end Go.Proofs.YtnklobeoneogdaaGreatDoor
