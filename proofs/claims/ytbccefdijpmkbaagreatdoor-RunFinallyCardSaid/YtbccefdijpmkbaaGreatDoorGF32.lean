/-
  Part of a proof: RunFinally, remainders 3 and 2, evaluated; no conditions.
-/
import Derived.Test.YtbccefdijpmkbaaGreatDoorGFd
set_option linter.constructorNameAsVariable false
set_option linter.unusedVariables false
set_option linter.unusedSimpArgs false
set_option linter.unusedSectionVars false
set_option linter.unusedVariables false
set_option maxRecDepth 100000
namespace Go.Proofs.YtbccefdijpmkbaaGreatDoor
open Go Go.Ev
noncomputable section
def s32 : Seg where
  a := vl [.r (.so 35 1 0 168)]
  n0 := 36
  l0 := [(35, .c 5 .st false 168 8 (tb 571666407966228392888301236190695868492359047576261199036587306480276177127689416186701127152619024440190554302240499076612713349301274042825279472194093668281697354028696983777107983290176307257680644460128854054609593866491327091291281298236999895155039858209112154865540736454957407043883492863262670748018050896641110558102307273049183967786656635287545634076694783134995896118305238202360002232874342))]
  v := .t (vl [.a (vl [.r (.so 6853 5 0 60)]), I 0, I 0])
  n1 := 6858
  l1 := [(35, .c 5 .st false 168 8 (tb 571666407966228392888301236190695868492359047576261199036587306480276177127689416186701127152619024440190554302240499076612713349301274042825279472194093668281697354028696983777107983290176307257680644460128854054609593866491327091291281298236999895155039858209112154865540736454957407043883492863262670748018050896641110558102307273049183967786656635287545634076694783134995896118305238202360002232874342)),
 (6569, .c 3 .no false 4 1 (vl [I 2, I 3, I 4, I 5])),
 (6587, .c 3 .no false 3 1 (vl [I 6, I 9, I 37])),
 (6594, .c 3 .no false 2 1 (vl [I 7, I 8])),
 (6607, .c 3 .no false 2 1 (vl [I 10, I 13])),
 (6614, .c 3 .no false 2 1 (vl [I 11, I 12])),
 (6627, .c 3 .no false 2 1 (vl [I 14, I 18])),
 (6632, .c 3 .no false 1 1 (vl [I 15])),
 (6639, .c 3 .no false 2 1 (vl [I 16, I 17])),
 (6654, .c 3 .no false 3 1 (vl [I 19, I 27, I 28])),
 (6661, .c 3 .no false 2 1 (vl [I 20, I 26])),
 (6666, .c 3 .no false 1 1 (vl [I 21])),
 (6675, .c 3 .no false 3 1 (vl [I 22, I 23, I 24])),
 (6686, .c 3 .no false 1 1 (vl [I 25])),
 (6702, .c 3 .no false 2 1 (vl [I 29, I 35])),
 (6707, .c 3 .no false 1 1 (vl [I 30])),
 (6716, .c 3 .no false 3 1 (vl [I 31, I 32, I 33])),
 (6727, .c 3 .no false 1 1 (vl [I 34])),
 (6735, .c 3 .no false 1 1 (vl [I 36])),
 (6743, .c 3 .no false 1 1 (vl [I 38])),
 (6750, .c 3 .no false 2 1 (vl [I 1, I 39])),
 (6757, .c 3 .no false 3 1 (vl [I 40, I 50, I 59])),
 (6762, .c 3 .no false 1 1 (vl [I 41])),
 (6767, .c 3 .no false 1 1 (vl [I 42])),
 (6776, .c 3 .no false 3 1 (vl [I 43, I 44, I 45])),
 (6787, .c 3 .no false 1 1 (vl [I 46])),
 (6796, .c 3 .no false 3 1 (vl [I 47, I 48, I 49])),
 (6810, .c 3 .no false 1 1 (vl [I 51])),
 (6815, .c 3 .no false 1 1 (vl [I 52])),
 (6820, .c 3 .no false 1 1 (vl [I 53])),
 (6829, .c 3 .no false 3 1 (vl [I 54, I 55, I 56])),
 (6842, .c 3 .no false 2 1 (vl [I 57, I 58])),
 (6853, .c 47 .no false 300 5 (vl [I 3, .s 1, I 0, .r (.so 6750 1 0 2), I 0, I 41, .s 358, I 0, .r (.so 6569 1 0 4), I 0, I 2, .s 1, I 0, .r .ns, I 10, I 2, .s 1, I 0, .r .ns, I 11, I 1, .s 1, I 0, .r .ns, I 13, I 63, .s 1, I 0, .r (.so 6587 1 0 3), I 13, I 40, .s 366, I 0, .r (.so 6594 1 0 2), I 15, I 1, .s 1, I 0, .r .ns, I 21, I 10, .s 1, I 0, .r .ns, I 23, I 54, .s 1, I 0, .r (.so 6607 1 0 2), I 26, I 24, .s 316, I 0, .r (.so 6614 1 0 2), I 33, I 17, .s 366, I 0, .r .ns, I 33, I 10, .s 1, I 1, .r .ns, I 37, I 63, .s 1, I 0, .r (.so 6627 1 0 2), I 40, I 64, .s 1, I 0, .r (.so 6632 1 0 1), I 42, I 26, .s 81195, I 0, .r (.so 6639 1 0 2), I 42, I 17, .s 366, I 0, .r .ns, I 42, I 10, .s 1, I 1, .r .ns, I 47, I 61, .s 1, I 0, .r (.so 6654 1 0 3), I 50, I 63, .s 1, I 0, .r (.so 6661 1 0 2), I 54, I 64, .s 1, I 0, .r (.so 6666 1 0 1), I 56, I 27, .s 1, I 0, .r (.so 6675 1 0 3), I 56, I 17, .s 1599580238448, I 0, .r .ns, I 56, I 2, .s 1, I 0, .r .ns, I 61, I 2, .s 1, I 0, .r (.so 6686 1 0 1), I 62, I 10, .s 1, I 1, .r .ns, I 62, I 58, .s 1, I 0, .r .ns, I 66, I 1, .s 1, I 0, .r .ns, I 75, I 63, .s 1, I 0, .r (.so 6702 1 0 2), I 83, I 64, .s 1, I 0, .r (.so 6707 1 0 1), I 85, I 27, .s 1, I 0, .r (.so 6716 1 0 3), I 85, I 17, .s 1599580238448, I 0, .r .ns, I 85, I 2, .s 1, I 0, .r .ns, I 90, I 2, .s 1, I 0, .r (.so 6727 1 0 1), I 91, I 10, .s 1, I 2, .r .ns, I 91, I 60, .s 1, I 0, .r (.so 6735 1 0 1), I 95, I 10, .s 1, I 8, .r .ns, I 101, I 57, .s 1, I 0, .r (.so 6743 1 0 1), I 108, I 10, .s 1, I 9, .r .ns, I 115, I 61, .s 1, I 0, .r (.so 6757 1 0 3), I 120, I 63, .s 1, I 0, .r (.so 6762 1 0 1), I 124, I 64, .s 1, I 0, .r (.so 6767 1 0 1), I 126, I 27, .s 1, I 0, .r (.so 6776 1 0 3), I 126, I 17, .s 1599580238448, I 0, .r .ns, I 126, I 2, .s 1, I 0, .r .ns, I 131, I 2, .s 1, I 0, .r (.so 6787 1 0 1), I 132, I 27, .s 1, I 0, .r (.so 6796 1 0 3), I 132, I 17, .s 358, I 0, .r .ns, I 132, I 2, .s 1, I 0, .r .ns, I 133, I 2, .s 1, I 0, .r .ns, I 134, I 62, .s 357, I 0, .r (.so 6810 1 0 1), I 140, I 63, .s 1, I 0, .r (.so 6815 1 0 1), I 150, I 64, .s 1, I 0, .r (.so 6820 1 0 1), I 152, I 27, .s 1, I 0, .r (.so 6829 1 0 3), I 152, I 17, .s 1599580238448, I 0, .r .ns, I 152, I 2, .s 1, I 0, .r .ns, I 157, I 2, .s 1, I 0, .r (.so 6842 1 0 2), I 158, I 11, .s 355, I 0, .r .ns, I 158, I 17, .s 357, I 0, .r .ns, I 163, I 1, .s 1, I 0, .r .ns, I 168]))]
theorem g32 : callF E0 300 false 10 s32.a (ofL s32.n0 s32.l0) s32.fin = true := by decide +kernel
theorem m32 : callF (EG (unFin (I 3) (I 2)) 10 [s32]) 300 false 3 un2 (h0N 0) isT = true := by decide +kernel
end
end Go.Proofs.YtbccefdijpmkbaaGreatDoor
