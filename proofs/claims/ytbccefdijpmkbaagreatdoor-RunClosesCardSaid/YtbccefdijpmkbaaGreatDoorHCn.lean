/-
  Part of a proof: RunCloses at a number below 1 or above 9, evaluated; no conditions.
-/
import Derived.Test.YtbccefdijpmkbaaGreatDoorHFd
set_option linter.constructorNameAsVariable false
set_option linter.unusedVariables false
set_option linter.unusedSimpArgs false
set_option linter.unusedSectionVars false
set_option maxRecDepth 100000
namespace Go.Proofs.YtbccefdijpmkbaaGreatDoor
open Go Go.Ev
theorem c_lo : callF (EK (unK (kLo 1))) 300 false 4 (vl [.r (.y 32768)]) (h0N 0) isT = true := by decide +kernel
theorem c_hi : callF (EK (unK (kHi 9))) 300 false 4 (vl [.r (.y 32768)]) (h0N 0) isT = true := by decide +kernel
end Go.Proofs.YtbccefdijpmkbaaGreatDoor
