/-
  Part of a proof: RunFinally, remainders 0 and 2, evaluated; no conditions.
-/
import Derived.Test.YtbccefdijpmkbaaGreatDoorGFd
set_option linter.constructorNameAsVariable false
set_option linter.unusedVariables false
set_option linter.unusedSimpArgs false
set_option linter.unusedSectionVars false
set_option linter.unusedVariables false
set_option maxRecDepth 100000
namespace Go.Proofs.YtbccefdijpmkbaaGreatDoor
open Go Go.Ev
noncomputable section
def s02 : Seg where
  a := vl [.r (.so 35 1 0 161)]
  n0 := 36
  l0 := [(35, .c 5 .st false 161 8 (tb 7933465106610809626346020820157554483025839181190869129297983753938363864595248678239518646435321841961376608562968291657634308651509875182434853749165094398156058336633824953591897822943406027552679722071993979251724930325130978482503933757279343747281509591323462363670171747455873702638333643551558072402993244790390911394712743789986566332374414899778003433599302310336994954609325414))]
  v := .t (vl [.a (vl [.r (.so 6790 5 0 59)]), I 0, I 0])
  n1 := 6795
  l1 := [(35, .c 5 .st false 161 8 (tb 7933465106610809626346020820157554483025839181190869129297983753938363864595248678239518646435321841961376608562968291657634308651509875182434853749165094398156058336633824953591897822943406027552679722071993979251724930325130978482503933757279343747281509591323462363670171747455873702638333643551558072402993244790390911394712743789986566332374414899778003433599302310336994954609325414)),
 (6511, .c 3 .no false 4 1 (vl [I 2, I 3, I 4, I 5])),
 (6529, .c 3 .no false 3 1 (vl [I 6, I 9, I 36])),
 (6536, .c 3 .no false 2 1 (vl [I 7, I 8])),
 (6549, .c 3 .no false 2 1 (vl [I 10, I 13])),
 (6556, .c 3 .no false 2 1 (vl [I 11, I 12])),
 (6569, .c 3 .no false 2 1 (vl [I 14, I 18])),
 (6574, .c 3 .no false 1 1 (vl [I 15])),
 (6581, .c 3 .no false 2 1 (vl [I 16, I 17])),
 (6596, .c 3 .no false 3 1 (vl [I 19, I 26, I 27])),
 (6601, .c 3 .no false 1 1 (vl [I 20])),
 (6606, .c 3 .no false 1 1 (vl [I 21])),
 (6615, .c 3 .no false 3 1 (vl [I 22, I 23, I 24])),
 (6626, .c 3 .no false 1 1 (vl [I 25])),
 (6639, .c 3 .no false 2 1 (vl [I 28, I 34])),
 (6644, .c 3 .no false 1 1 (vl [I 29])),
 (6653, .c 3 .no false 3 1 (vl [I 30, I 31, I 32])),
 (6664, .c 3 .no false 1 1 (vl [I 33])),
 (6672, .c 3 .no false 1 1 (vl [I 35])),
 (6680, .c 3 .no false 1 1 (vl [I 37])),
 (6687, .c 3 .no false 2 1 (vl [I 1, I 38])),
 (6694, .c 3 .no false 3 1 (vl [I 39, I 49, I 58])),
 (6699, .c 3 .no false 1 1 (vl [I 40])),
 (6704, .c 3 .no false 1 1 (vl [I 41])),
 (6713, .c 3 .no false 3 1 (vl [I 42, I 43, I 44])),
 (6724, .c 3 .no false 1 1 (vl [I 45])),
 (6733, .c 3 .no false 3 1 (vl [I 46, I 47, I 48])),
 (6747, .c 3 .no false 1 1 (vl [I 50])),
 (6752, .c 3 .no false 1 1 (vl [I 51])),
 (6757, .c 3 .no false 1 1 (vl [I 52])),
 (6766, .c 3 .no false 3 1 (vl [I 53, I 54, I 55])),
 (6779, .c 3 .no false 2 1 (vl [I 56, I 57])),
 (6790, .c 47 .no false 295 5 (vl [I 3, .s 1, I 0, .r (.so 6687 1 0 2), I 0, I 41, .s 358, I 0, .r (.so 6511 1 0 4), I 0, I 2, .s 1, I 0, .r .ns, I 10, I 2, .s 1, I 0, .r .ns, I 11, I 1, .s 1, I 0, .r .ns, I 13, I 63, .s 1, I 0, .r (.so 6529 1 0 3), I 13, I 40, .s 366, I 0, .r (.so 6536 1 0 2), I 15, I 1, .s 1, I 0, .r .ns, I 21, I 10, .s 1, I 0, .r .ns, I 23, I 54, .s 1, I 0, .r (.so 6549 1 0 2), I 26, I 24, .s 316, I 0, .r (.so 6556 1 0 2), I 33, I 17, .s 366, I 0, .r .ns, I 33, I 10, .s 1, I 1, .r .ns, I 37, I 63, .s 1, I 0, .r (.so 6569 1 0 2), I 40, I 64, .s 1, I 0, .r (.so 6574 1 0 1), I 42, I 26, .s 81195, I 0, .r (.so 6581 1 0 2), I 42, I 17, .s 366, I 0, .r .ns, I 42, I 10, .s 1, I 1, .r .ns, I 47, I 61, .s 1, I 0, .r (.so 6596 1 0 3), I 50, I 63, .s 1, I 0, .r (.so 6601 1 0 1), I 54, I 64, .s 1, I 0, .r (.so 6606 1 0 1), I 56, I 27, .s 1, I 0, .r (.so 6615 1 0 3), I 56, I 17, .s 1599580238448, I 0, .r .ns, I 56, I 2, .s 1, I 0, .r .ns, I 61, I 2, .s 1, I 0, .r (.so 6626 1 0 1), I 62, I 10, .s 1, I 1, .r .ns, I 62, I 1, .s 1, I 0, .r .ns, I 68, I 63, .s 1, I 0, .r (.so 6639 1 0 2), I 76, I 64, .s 1, I 0, .r (.so 6644 1 0 1), I 78, I 27, .s 1, I 0, .r (.so 6653 1 0 3), I 78, I 17, .s 1599580238448, I 0, .r .ns, I 78, I 2, .s 1, I 0, .r .ns, I 83, I 2, .s 1, I 0, .r (.so 6664 1 0 1), I 84, I 10, .s 1, I 2, .r .ns, I 84, I 60, .s 1, I 0, .r (.so 6672 1 0 1), I 88, I 10, .s 1, I 8, .r .ns, I 94, I 57, .s 1, I 0, .r (.so 6680 1 0 1), I 101, I 10, .s 1, I 9, .r .ns, I 108, I 61, .s 1, I 0, .r (.so 6694 1 0 3), I 113, I 63, .s 1, I 0, .r (.so 6699 1 0 1), I 117, I 64, .s 1, I 0, .r (.so 6704 1 0 1), I 119, I 27, .s 1, I 0, .r (.so 6713 1 0 3), I 119, I 17, .s 1599580238448, I 0, .r .ns, I 119, I 2, .s 1, I 0, .r .ns, I 124, I 2, .s 1, I 0, .r (.so 6724 1 0 1), I 125, I 27, .s 1, I 0, .r (.so 6733 1 0 3), I 125, I 17, .s 358, I 0, .r .ns, I 125, I 2, .s 1, I 0, .r .ns, I 126, I 2, .s 1, I 0, .r .ns, I 127, I 62, .s 357, I 0, .r (.so 6747 1 0 1), I 133, I 63, .s 1, I 0, .r (.so 6752 1 0 1), I 143, I 64, .s 1, I 0, .r (.so 6757 1 0 1), I 145, I 27, .s 1, I 0, .r (.so 6766 1 0 3), I 145, I 17, .s 1599580238448, I 0, .r .ns, I 145, I 2, .s 1, I 0, .r .ns, I 150, I 2, .s 1, I 0, .r (.so 6779 1 0 2), I 151, I 11, .s 355, I 0, .r .ns, I 151, I 17, .s 357, I 0, .r .ns, I 156, I 1, .s 1, I 0, .r .ns, I 161]))]
theorem g02 : callF E0 300 false 10 s02.a (ofL s02.n0 s02.l0) s02.fin = true := by decide +kernel
theorem m02 : callF (EG (unFin (I 0) (I 2)) 10 [s02]) 300 false 3 un2 (h0N 0) isT = true := by decide +kernel
end
end Go.Proofs.YtbccefdijpmkbaaGreatDoor
