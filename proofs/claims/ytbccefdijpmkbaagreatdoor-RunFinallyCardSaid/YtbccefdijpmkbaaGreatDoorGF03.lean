/-
  Part of a proof: RunFinally, remainders 0 and 3, evaluated; no conditions.
-/
import Derived.Test.YtbccefdijpmkbaaGreatDoorGFd
set_option linter.constructorNameAsVariable false
set_option linter.unusedVariables false
set_option linter.unusedSimpArgs false
set_option linter.unusedSectionVars false
set_option linter.unusedVariables false
set_option maxRecDepth 100000
namespace Go.Proofs.YtbccefdijpmkbaaGreatDoor
open Go Go.Ev
noncomputable section
def s03 : Seg where
  a := vl [.r (.so 35 1 0 159)]
  n0 := 36
  l0 := [(35, .c 5 .st false 159 8 (tb 121055070596478418370758374331017371872342516802839189595000972807897397836231211520988748877492093535787606942183964411279820383476408007544477138506547460909382209959497782005861295199639057406985736239405058560676480071276283929151984073686503427298550058557796072640661162289837446466976783045621319489706591863711628553437836936883619232513464877258714290092062269403369388799334))]
  v := .t (vl [.a (vl [.r (.so 6476 5 0 58)]), I 0, I 0])
  n1 := 6481
  l1 := [(35, .c 5 .st false 159 8 (tb 121055070596478418370758374331017371872342516802839189595000972807897397836231211520988748877492093535787606942183964411279820383476408007544477138506547460909382209959497782005861295199639057406985736239405058560676480071276283929151984073686503427298550058557796072640661162289837446466976783045621319489706591863711628553437836936883619232513464877258714290092062269403369388799334)),
 (6202, .c 3 .no false 4 1 (vl [I 2, I 3, I 4, I 5])),
 (6220, .c 3 .no false 3 1 (vl [I 6, I 9, I 35])),
 (6227, .c 3 .no false 2 1 (vl [I 7, I 8])),
 (6240, .c 3 .no false 2 1 (vl [I 10, I 13])),
 (6247, .c 3 .no false 2 1 (vl [I 11, I 12])),
 (6260, .c 3 .no false 2 1 (vl [I 14, I 18])),
 (6265, .c 3 .no false 1 1 (vl [I 15])),
 (6272, .c 3 .no false 2 1 (vl [I 16, I 17])),
 (6287, .c 3 .no false 3 1 (vl [I 19, I 26, I 27])),
 (6292, .c 3 .no false 1 1 (vl [I 20])),
 (6297, .c 3 .no false 1 1 (vl [I 21])),
 (6306, .c 3 .no false 3 1 (vl [I 22, I 23, I 24])),
 (6317, .c 3 .no false 1 1 (vl [I 25])),
 (6330, .c 3 .no false 2 1 (vl [I 28, I 34])),
 (6335, .c 3 .no false 1 1 (vl [I 29])),
 (6344, .c 3 .no false 3 1 (vl [I 30, I 31, I 32])),
 (6355, .c 3 .no false 1 1 (vl [I 33])),
 (6366, .c 3 .no false 1 1 (vl [I 36])),
 (6373, .c 3 .no false 2 1 (vl [I 1, I 37])),
 (6380, .c 3 .no false 3 1 (vl [I 38, I 48, I 57])),
 (6385, .c 3 .no false 1 1 (vl [I 39])),
 (6390, .c 3 .no false 1 1 (vl [I 40])),
 (6399, .c 3 .no false 3 1 (vl [I 41, I 42, I 43])),
 (6410, .c 3 .no false 1 1 (vl [I 44])),
 (6419, .c 3 .no false 3 1 (vl [I 45, I 46, I 47])),
 (6433, .c 3 .no false 1 1 (vl [I 49])),
 (6438, .c 3 .no false 1 1 (vl [I 50])),
 (6443, .c 3 .no false 1 1 (vl [I 51])),
 (6452, .c 3 .no false 3 1 (vl [I 52, I 53, I 54])),
 (6465, .c 3 .no false 2 1 (vl [I 55, I 56])),
 (6476, .c 47 .no false 290 5 (vl [I 3, .s 1, I 0, .r (.so 6373 1 0 2), I 0, I 41, .s 358, I 0, .r (.so 6202 1 0 4), I 0, I 2, .s 1, I 0, .r .ns, I 10, I 2, .s 1, I 0, .r .ns, I 11, I 1, .s 1, I 0, .r .ns, I 13, I 63, .s 1, I 0, .r (.so 6220 1 0 3), I 13, I 40, .s 366, I 0, .r (.so 6227 1 0 2), I 15, I 1, .s 1, I 0, .r .ns, I 21, I 10, .s 1, I 0, .r .ns, I 23, I 54, .s 1, I 0, .r (.so 6240 1 0 2), I 26, I 24, .s 316, I 0, .r (.so 6247 1 0 2), I 33, I 17, .s 366, I 0, .r .ns, I 33, I 10, .s 1, I 1, .r .ns, I 37, I 63, .s 1, I 0, .r (.so 6260 1 0 2), I 40, I 64, .s 1, I 0, .r (.so 6265 1 0 1), I 42, I 26, .s 81195, I 0, .r (.so 6272 1 0 2), I 42, I 17, .s 366, I 0, .r .ns, I 42, I 10, .s 1, I 1, .r .ns, I 47, I 61, .s 1, I 0, .r (.so 6287 1 0 3), I 50, I 63, .s 1, I 0, .r (.so 6292 1 0 1), I 54, I 64, .s 1, I 0, .r (.so 6297 1 0 1), I 56, I 27, .s 1, I 0, .r (.so 6306 1 0 3), I 56, I 17, .s 1599580238448, I 0, .r .ns, I 56, I 2, .s 1, I 0, .r .ns, I 61, I 2, .s 1, I 0, .r (.so 6317 1 0 1), I 62, I 10, .s 1, I 1, .r .ns, I 62, I 1, .s 1, I 0, .r .ns, I 68, I 63, .s 1, I 0, .r (.so 6330 1 0 2), I 76, I 64, .s 1, I 0, .r (.so 6335 1 0 1), I 78, I 27, .s 1, I 0, .r (.so 6344 1 0 3), I 78, I 17, .s 1599580238448, I 0, .r .ns, I 78, I 2, .s 1, I 0, .r .ns, I 83, I 2, .s 1, I 0, .r (.so 6355 1 0 1), I 84, I 10, .s 1, I 2, .r .ns, I 84, I 58, .s 1, I 0, .r .ns, I 88, I 57, .s 1, I 0, .r (.so 6366 1 0 1), I 99, I 10, .s 1, I 9, .r .ns, I 106, I 61, .s 1, I 0, .r (.so 6380 1 0 3), I 111, I 63, .s 1, I 0, .r (.so 6385 1 0 1), I 115, I 64, .s 1, I 0, .r (.so 6390 1 0 1), I 117, I 27, .s 1, I 0, .r (.so 6399 1 0 3), I 117, I 17, .s 1599580238448, I 0, .r .ns, I 117, I 2, .s 1, I 0, .r .ns, I 122, I 2, .s 1, I 0, .r (.so 6410 1 0 1), I 123, I 27, .s 1, I 0, .r (.so 6419 1 0 3), I 123, I 17, .s 358, I 0, .r .ns, I 123, I 2, .s 1, I 0, .r .ns, I 124, I 2, .s 1, I 0, .r .ns, I 125, I 62, .s 357, I 0, .r (.so 6433 1 0 1), I 131, I 63, .s 1, I 0, .r (.so 6438 1 0 1), I 141, I 64, .s 1, I 0, .r (.so 6443 1 0 1), I 143, I 27, .s 1, I 0, .r (.so 6452 1 0 3), I 143, I 17, .s 1599580238448, I 0, .r .ns, I 143, I 2, .s 1, I 0, .r .ns, I 148, I 2, .s 1, I 0, .r (.so 6465 1 0 2), I 149, I 11, .s 355, I 0, .r .ns, I 149, I 17, .s 357, I 0, .r .ns, I 154, I 1, .s 1, I 0, .r .ns, I 159]))]
theorem g03 : callF E0 300 false 10 s03.a (ofL s03.n0 s03.l0) s03.fin = true := by decide +kernel
theorem m03 : callF (EG (unFin (I 0) (I 3)) 10 [s03]) 300 false 3 un2 (h0N 0) isT = true := by decide +kernel
end
end Go.Proofs.YtbccefdijpmkbaaGreatDoor
