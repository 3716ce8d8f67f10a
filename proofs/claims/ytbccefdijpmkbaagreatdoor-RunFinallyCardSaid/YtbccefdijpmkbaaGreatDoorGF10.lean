/-
  Part of a proof: RunFinally, remainders 1 and 0, evaluated; no conditions.
-/
import Derived.Test.YtbccefdijpmkbaaGreatDoorGFd
set_option linter.constructorNameAsVariable false
set_option linter.unusedVariables false
set_option linter.unusedSimpArgs false
set_option linter.unusedSectionVars false
set_option linter.unusedVariables false
set_option maxRecDepth 100000
namespace Go.Proofs.YtbccefdijpmkbaaGreatDoor
open Go Go.Ev
noncomputable section
def s10 : Seg where
  a := vl [.r (.so 35 1 0 162)]
  n0 := 36
  l0 := [(35, .c 5 .st false 162 8 (tb 2030967067292367264344581329960333947654614830384862497100283841008221149336383661629316773487442391542112411792119882664354383014786528046703322559786264165927860385424473857688792719796176915064602202933095550729763255420259959614953448071303674140496193196422107963961146682336299716310099333325073529666886065361387708206792891926337843459621256764907311676046727009790899543362572809574))]
  v := .t (vl [.a (vl [.r (.so 6797 5 0 59)]), I 0, I 0])
  n1 := 6802
  l1 := [(35, .c 5 .st false 162 8 (tb 2030967067292367264344581329960333947654614830384862497100283841008221149336383661629316773487442391542112411792119882664354383014786528046703322559786264165927860385424473857688792719796176915064602202933095550729763255420259959614953448071303674140496193196422107963961146682336299716310099333325073529666886065361387708206792891926337843459621256764907311676046727009790899543362572809574)),
 (6518, .c 3 .no false 4 1 (vl [I 2, I 3, I 4, I 5])),
 (6536, .c 3 .no false 3 1 (vl [I 6, I 9, I 36])),
 (6543, .c 3 .no false 2 1 (vl [I 7, I 8])),
 (6556, .c 3 .no false 2 1 (vl [I 10, I 13])),
 (6563, .c 3 .no false 2 1 (vl [I 11, I 12])),
 (6576, .c 3 .no false 2 1 (vl [I 14, I 18])),
 (6581, .c 3 .no false 1 1 (vl [I 15])),
 (6588, .c 3 .no false 2 1 (vl [I 16, I 17])),
 (6603, .c 3 .no false 3 1 (vl [I 19, I 28, I 29])),
 (6610, .c 3 .no false 2 1 (vl [I 20, I 26])),
 (6615, .c 3 .no false 1 1 (vl [I 21])),
 (6624, .c 3 .no false 3 1 (vl [I 22, I 23, I 24])),
 (6635, .c 3 .no false 1 1 (vl [I 25])),
 (6643, .c 3 .no false 1 1 (vl [I 27])),
 (6654, .c 3 .no false 1 1 (vl [I 30])),
 (6659, .c 3 .no false 1 1 (vl [I 31])),
 (6668, .c 3 .no false 3 1 (vl [I 32, I 33, I 34])),
 (6679, .c 3 .no false 1 1 (vl [I 35])),
 (6687, .c 3 .no false 1 1 (vl [I 37])),
 (6694, .c 3 .no false 2 1 (vl [I 1, I 38])),
 (6701, .c 3 .no false 3 1 (vl [I 39, I 49, I 58])),
 (6706, .c 3 .no false 1 1 (vl [I 40])),
 (6711, .c 3 .no false 1 1 (vl [I 41])),
 (6720, .c 3 .no false 3 1 (vl [I 42, I 43, I 44])),
 (6731, .c 3 .no false 1 1 (vl [I 45])),
 (6740, .c 3 .no false 3 1 (vl [I 46, I 47, I 48])),
 (6754, .c 3 .no false 1 1 (vl [I 50])),
 (6759, .c 3 .no false 1 1 (vl [I 51])),
 (6764, .c 3 .no false 1 1 (vl [I 52])),
 (6773, .c 3 .no false 3 1 (vl [I 53, I 54, I 55])),
 (6786, .c 3 .no false 2 1 (vl [I 56, I 57])),
 (6797, .c 47 .no false 295 5 (vl [I 3, .s 1, I 0, .r (.so 6694 1 0 2), I 0, I 41, .s 358, I 0, .r (.so 6518 1 0 4), I 0, I 2, .s 1, I 0, .r .ns, I 10, I 2, .s 1, I 0, .r .ns, I 11, I 1, .s 1, I 0, .r .ns, I 13, I 63, .s 1, I 0, .r (.so 6536 1 0 3), I 13, I 40, .s 366, I 0, .r (.so 6543 1 0 2), I 15, I 1, .s 1, I 0, .r .ns, I 21, I 10, .s 1, I 0, .r .ns, I 23, I 54, .s 1, I 0, .r (.so 6556 1 0 2), I 26, I 24, .s 316, I 0, .r (.so 6563 1 0 2), I 33, I 17, .s 366, I 0, .r .ns, I 33, I 10, .s 1, I 1, .r .ns, I 37, I 63, .s 1, I 0, .r (.so 6576 1 0 2), I 40, I 64, .s 1, I 0, .r (.so 6581 1 0 1), I 42, I 26, .s 81195, I 0, .r (.so 6588 1 0 2), I 42, I 17, .s 366, I 0, .r .ns, I 42, I 10, .s 1, I 1, .r .ns, I 47, I 61, .s 1, I 0, .r (.so 6603 1 0 3), I 50, I 63, .s 1, I 0, .r (.so 6610 1 0 2), I 54, I 64, .s 1, I 0, .r (.so 6615 1 0 1), I 56, I 27, .s 1, I 0, .r (.so 6624 1 0 3), I 56, I 17, .s 1599580238448, I 0, .r .ns, I 56, I 2, .s 1, I 0, .r .ns, I 61, I 2, .s 1, I 0, .r (.so 6635 1 0 1), I 62, I 10, .s 1, I 1, .r .ns, I 62, I 57, .s 1, I 0, .r (.so 6643 1 0 1), I 66, I 10, .s 1, I 5, .r .ns, I 73, I 1, .s 1, I 0, .r .ns, I 78, I 63, .s 1, I 0, .r (.so 6654 1 0 1), I 86, I 64, .s 1, I 0, .r (.so 6659 1 0 1), I 88, I 27, .s 1, I 0, .r (.so 6668 1 0 3), I 88, I 17, .s 1599580238448, I 0, .r .ns, I 88, I 2, .s 1, I 0, .r .ns, I 93, I 2, .s 1, I 0, .r (.so 6679 1 0 1), I 94, I 10, .s 1, I 2, .r .ns, I 94, I 57, .s 1, I 0, .r (.so 6687 1 0 1), I 102, I 10, .s 1, I 9, .r .ns, I 109, I 61, .s 1, I 0, .r (.so 6701 1 0 3), I 114, I 63, .s 1, I 0, .r (.so 6706 1 0 1), I 118, I 64, .s 1, I 0, .r (.so 6711 1 0 1), I 120, I 27, .s 1, I 0, .r (.so 6720 1 0 3), I 120, I 17, .s 1599580238448, I 0, .r .ns, I 120, I 2, .s 1, I 0, .r .ns, I 125, I 2, .s 1, I 0, .r (.so 6731 1 0 1), I 126, I 27, .s 1, I 0, .r (.so 6740 1 0 3), I 126, I 17, .s 358, I 0, .r .ns, I 126, I 2, .s 1, I 0, .r .ns, I 127, I 2, .s 1, I 0, .r .ns, I 128, I 62, .s 357, I 0, .r (.so 6754 1 0 1), I 134, I 63, .s 1, I 0, .r (.so 6759 1 0 1), I 144, I 64, .s 1, I 0, .r (.so 6764 1 0 1), I 146, I 27, .s 1, I 0, .r (.so 6773 1 0 3), I 146, I 17, .s 1599580238448, I 0, .r .ns, I 146, I 2, .s 1, I 0, .r .ns, I 151, I 2, .s 1, I 0, .r (.so 6786 1 0 2), I 152, I 11, .s 355, I 0, .r .ns, I 152, I 17, .s 357, I 0, .r .ns, I 157, I 1, .s 1, I 0, .r .ns, I 162]))]
theorem g10 : callF E0 300 false 10 s10.a (ofL s10.n0 s10.l0) s10.fin = true := by decide +kernel
theorem m10 : callF (EG (unFin (I 1) (I 0)) 10 [s10]) 300 false 3 un2 (h0N 0) isT = true := by decide +kernel
end
end Go.Proofs.YtbccefdijpmkbaaGreatDoor
