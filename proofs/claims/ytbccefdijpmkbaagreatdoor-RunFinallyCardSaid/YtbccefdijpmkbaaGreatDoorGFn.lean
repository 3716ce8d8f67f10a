/-
  Part of a proof: RunFinally where a remainder is below zero, evaluated; no conditions.
-/
import Derived.Test.YtbccefdijpmkbaaGreatDoorGFd
set_option linter.constructorNameAsVariable false
set_option linter.unusedVariables false
set_option linter.unusedSimpArgs false
set_option linter.unusedSectionVars false
set_option maxRecDepth 100000
namespace Go.Proofs.YtbccefdijpmkbaaGreatDoor
open Go Go.Ev
theorem n_1 : callF (EK (unFin (.i .i64 (Int.negSucc 0)) .u)) 300 false 3 un2 (h0N 0) isT = true := by decide +kernel
theorem n_2 : callF (EK (unFin (.i .i64 (Int.negSucc 1)) .u)) 300 false 3 un2 (h0N 0) isT = true := by decide +kernel
theorem n_3 : callF (EK (unFin (.i .i64 (Int.negSucc 2)) .u)) 300 false 3 un2 (h0N 0) isT = true := by decide +kernel
theorem n_4 : callF (EK (unFin (.i .i64 (Int.negSucc 3)) .u)) 300 false 3 un2 (h0N 0) isT = true := by decide +kernel
theorem n0_1 : callF (EK (unFin (I 0) (.i .i64 (Int.negSucc 0)))) 300 false 3 un2 (h0N 0) isT = true := by decide +kernel
theorem n0_2 : callF (EK (unFin (I 0) (.i .i64 (Int.negSucc 1)))) 300 false 3 un2 (h0N 0) isT = true := by decide +kernel
theorem n0_3 : callF (EK (unFin (I 0) (.i .i64 (Int.negSucc 2)))) 300 false 3 un2 (h0N 0) isT = true := by decide +kernel
theorem n1_1 : callF (EK (unFin (I 1) (.i .i64 (Int.negSucc 0)))) 300 false 3 un2 (h0N 0) isT = true := by decide +kernel
theorem n1_2 : callF (EK (unFin (I 1) (.i .i64 (Int.negSucc 1)))) 300 false 3 un2 (h0N 0) isT = true := by decide +kernel
theorem n1_3 : callF (EK (unFin (I 1) (.i .i64 (Int.negSucc 2)))) 300 false 3 un2 (h0N 0) isT = true := by decide +kernel
theorem n2_1 : callF (EK (unFin (I 2) (.i .i64 (Int.negSucc 0)))) 300 false 3 un2 (h0N 0) isT = true := by decide +kernel
theorem n2_2 : callF (EK (unFin (I 2) (.i .i64 (Int.negSucc 1)))) 300 false 3 un2 (h0N 0) isT = true := by decide +kernel
theorem n2_3 : callF (EK (unFin (I 2) (.i .i64 (Int.negSucc 2)))) 300 false 3 un2 (h0N 0) isT = true := by decide +kernel
theorem n3_1 : callF (EK (unFin (I 3) (.i .i64 (Int.negSucc 0)))) 300 false 3 un2 (h0N 0) isT = true := by decide +kernel
theorem n3_2 : callF (EK (unFin (I 3) (.i .i64 (Int.negSucc 1)))) 300 false 3 un2 (h0N 0) isT = true := by decide +kernel
theorem n3_3 : callF (EK (unFin (I 3) (.i .i64 (Int.negSucc 2)))) 300 false 3 un2 (h0N 0) isT = true := by decide +kernel
theorem n4_1 : callF (EK (unFin (I 4) (.i .i64 (Int.negSucc 0)))) 300 false 3 un2 (h0N 0) isT = true := by decide +kernel
theorem n4_2 : callF (EK (unFin (I 4) (.i .i64 (Int.negSucc 1)))) 300 false 3 un2 (h0N 0) isT = true := by decide +kernel
theorem n4_3 : callF (EK (unFin (I 4) (.i .i64 (Int.negSucc 2)))) 300 false 3 un2 (h0N 0) isT = true := by decide +kernel
end Go.Proofs.YtbccefdijpmkbaaGreatDoor
