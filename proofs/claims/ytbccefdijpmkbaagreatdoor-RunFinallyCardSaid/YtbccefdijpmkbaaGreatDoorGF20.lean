/-
  Part of a proof: RunFinally, remainders 2 and 0, evaluated; no conditions.
-/
import Derived.Test.YtbccefdijpmkbaaGreatDoorGFd
set_option linter.constructorNameAsVariable false
set_option linter.unusedVariables false
set_option linter.unusedSimpArgs false
set_option linter.unusedSectionVars false
set_option linter.unusedVariables false
set_option maxRecDepth 100000
namespace Go.Proofs.YtbccefdijpmkbaaGreatDoor
open Go Go.Ev
noncomputable section
def s20 : Seg where
  a := vl [.r (.so 35 1 0 161)]
  n0 := 36
  l0 := [(35, .c 5 .st false 161 8 (tb 7933465106610809626346020820157554483025839181190869129297983753938363864595248678239518646435321841961376608562968291657634308651509875182434853749165094398155704630564351006596846561703816074471102355207404495038385080808123828269295829935799529707321610985620034212979366849941626558565871414312446335679360663723001435559385912972898931936221882610028786183461117162880842337704899942))]
  v := .t (vl [.a (vl [.r (.so 6790 5 0 59)]), I 0, I 0])
  n1 := 6795
  l1 := [(35, .c 5 .st false 161 8 (tb 7933465106610809626346020820157554483025839181190869129297983753938363864595248678239518646435321841961376608562968291657634308651509875182434853749165094398155704630564351006596846561703816074471102355207404495038385080808123828269295829935799529707321610985620034212979366849941626558565871414312446335679360663723001435559385912972898931936221882610028786183461117162880842337704899942)),
 (6511, .c 3 .no false 4 1 (vl [I 2, I 3, I 4, I 5])),
 (6529, .c 3 .no false 3 1 (vl [I 6, I 9, I 36])),
 (6536, .c 3 .no false 2 1 (vl [I 7, I 8])),
 (6549, .c 3 .no false 2 1 (vl [I 10, I 13])),
 (6556, .c 3 .no false 2 1 (vl [I 11, I 12])),
 (6569, .c 3 .no false 2 1 (vl [I 14, I 18])),
 (6574, .c 3 .no false 1 1 (vl [I 15])),
 (6581, .c 3 .no false 2 1 (vl [I 16, I 17])),
 (6596, .c 3 .no false 3 1 (vl [I 19, I 28, I 29])),
 (6603, .c 3 .no false 2 1 (vl [I 20, I 26])),
 (6608, .c 3 .no false 1 1 (vl [I 21])),
 (6617, .c 3 .no false 3 1 (vl [I 22, I 23, I 24])),
 (6628, .c 3 .no false 1 1 (vl [I 25])),
 (6636, .c 3 .no false 1 1 (vl [I 27])),
 (6647, .c 3 .no false 1 1 (vl [I 30])),
 (6652, .c 3 .no false 1 1 (vl [I 31])),
 (6661, .c 3 .no false 3 1 (vl [I 32, I 33, I 34])),
 (6672, .c 3 .no false 1 1 (vl [I 35])),
 (6680, .c 3 .no false 1 1 (vl [I 37])),
 (6687, .c 3 .no false 2 1 (vl [I 1, I 38])),
 (6694, .c 3 .no false 3 1 (vl [I 39, I 49, I 58])),
 (6699, .c 3 .no false 1 1 (vl [I 40])),
 (6704, .c 3 .no false 1 1 (vl [I 41])),
 (6713, .c 3 .no false 3 1 (vl [I 42, I 43, I 44])),
 (6724, .c 3 .no false 1 1 (vl [I 45])),
 (6733, .c 3 .no false 3 1 (vl [I 46, I 47, I 48])),
 (6747, .c 3 .no false 1 1 (vl [I 50])),
 (6752, .c 3 .no false 1 1 (vl [I 51])),
 (6757, .c 3 .no false 1 1 (vl [I 52])),
 (6766, .c 3 .no false 3 1 (vl [I 53, I 54, I 55])),
 (6779, .c 3 .no false 2 1 (vl [I 56, I 57])),
 (6790, .c 47 .no false 295 5 (vl [I 3, .s 1, I 0, .r (.so 6687 1 0 2), I 0, I 41, .s 358, I 0, .r (.so 6511 1 0 4), I 0, I 2, .s 1, I 0, .r .ns, I 10, I 2, .s 1, I 0, .r .ns, I 11, I 1, .s 1, I 0, .r .ns, I 13, I 63, .s 1, I 0, .r (.so 6529 1 0 3), I 13, I 40, .s 366, I 0, .r (.so 6536 1 0 2), I 15, I 1, .s 1, I 0, .r .ns, I 21, I 10, .s 1, I 0, .r .ns, I 23, I 54, .s 1, I 0, .r (.so 6549 1 0 2), I 26, I 24, .s 316, I 0, .r (.so 6556 1 0 2), I 33, I 17, .s 366, I 0, .r .ns, I 33, I 10, .s 1, I 1, .r .ns, I 37, I 63, .s 1, I 0, .r (.so 6569 1 0 2), I 40, I 64, .s 1, I 0, .r (.so 6574 1 0 1), I 42, I 26, .s 81195, I 0, .r (.so 6581 1 0 2), I 42, I 17, .s 366, I 0, .r .ns, I 42, I 10, .s 1, I 1, .r .ns, I 47, I 61, .s 1, I 0, .r (.so 6596 1 0 3), I 50, I 63, .s 1, I 0, .r (.so 6603 1 0 2), I 54, I 64, .s 1, I 0, .r (.so 6608 1 0 1), I 56, I 27, .s 1, I 0, .r (.so 6617 1 0 3), I 56, I 17, .s 1599580238448, I 0, .r .ns, I 56, I 2, .s 1, I 0, .r .ns, I 61, I 2, .s 1, I 0, .r (.so 6628 1 0 1), I 62, I 10, .s 1, I 1, .r .ns, I 62, I 60, .s 1, I 0, .r (.so 6636 1 0 1), I 66, I 10, .s 1, I 6, .r .ns, I 72, I 1, .s 1, I 0, .r .ns, I 77, I 63, .s 1, I 0, .r (.so 6647 1 0 1), I 85, I 64, .s 1, I 0, .r (.so 6652 1 0 1), I 87, I 27, .s 1, I 0, .r (.so 6661 1 0 3), I 87, I 17, .s 1599580238448, I 0, .r .ns, I 87, I 2, .s 1, I 0, .r .ns, I 92, I 2, .s 1, I 0, .r (.so 6672 1 0 1), I 93, I 10, .s 1, I 2, .r .ns, I 93, I 57, .s 1, I 0, .r (.so 6680 1 0 1), I 101, I 10, .s 1, I 9, .r .ns, I 108, I 61, .s 1, I 0, .r (.so 6694 1 0 3), I 113, I 63, .s 1, I 0, .r (.so 6699 1 0 1), I 117, I 64, .s 1, I 0, .r (.so 6704 1 0 1), I 119, I 27, .s 1, I 0, .r (.so 6713 1 0 3), I 119, I 17, .s 1599580238448, I 0, .r .ns, I 119, I 2, .s 1, I 0, .r .ns, I 124, I 2, .s 1, I 0, .r (.so 6724 1 0 1), I 125, I 27, .s 1, I 0, .r (.so 6733 1 0 3), I 125, I 17, .s 358, I 0, .r .ns, I 125, I 2, .s 1, I 0, .r .ns, I 126, I 2, .s 1, I 0, .r .ns, I 127, I 62, .s 357, I 0, .r (.so 6747 1 0 1), I 133, I 63, .s 1, I 0, .r (.so 6752 1 0 1), I 143, I 64, .s 1, I 0, .r (.so 6757 1 0 1), I 145, I 27, .s 1, I 0, .r (.so 6766 1 0 3), I 145, I 17, .s 1599580238448, I 0, .r .ns, I 145, I 2, .s 1, I 0, .r .ns, I 150, I 2, .s 1, I 0, .r (.so 6779 1 0 2), I 151, I 11, .s 355, I 0, .r .ns, I 151, I 17, .s 357, I 0, .r .ns, I 156, I 1, .s 1, I 0, .r .ns, I 161]))]
theorem g20 : callF E0 300 false 10 s20.a (ofL s20.n0 s20.l0) s20.fin = true := by decide +kernel
theorem m20 : callF (EG (unFin (I 2) (I 0)) 10 [s20]) 300 false 3 un2 (h0N 0) isT = true := by decide +kernel
end
end Go.Proofs.YtbccefdijpmkbaaGreatDoor
