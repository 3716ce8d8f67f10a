/-
  Part of a proof: RunFinally, remainders 4 and 3, evaluated; no conditions.
-/
import Derived.Test.YtbccefdijpmkbaaGreatDoorGFd
set_option linter.constructorNameAsVariable false
set_option linter.unusedVariables false
set_option linter.unusedSimpArgs false
set_option linter.unusedSectionVars false
set_option linter.unusedVariables false
set_option maxRecDepth 100000
namespace Go.Proofs.YtbccefdijpmkbaaGreatDoor
open Go Go.Ev
noncomputable section
def s43 : Seg where
  a := vl [.r (.so 35 1 0 169)]
  n0 := 36
  l0 := [(35, .c 5 .st false 169 8 (tb 146346600439354468579405116464818142334043916179522866953366350458950701344688490543795488551070470256688781901373567763612854617421126154963271544881687979080136920211846349252963915809077312713023672455635276391251731533373180389722758851643034445740294525981111807653739543402210149818142490146411373695362950580141624287990855661420027717384270360600324928895911339797040861572526852499910703129220248934))]
  v := .t (vl [.a (vl [.r (.so 6539 5 0 59)]), I 0, I 0])
  n1 := 6544
  l1 := [(35, .c 5 .st false 169 8 (tb 146346600439354468579405116464818142334043916179522866953366350458950701344688490543795488551070470256688781901373567763612854617421126154963271544881687979080136920211846349252963915809077312713023672455635276391251731533373180389722758851643034445740294525981111807653739543402210149818142490146411373695362950580141624287990855661420027717384270360600324928895911339797040861572526852499910703129220248934)),
 (6260, .c 3 .no false 4 1 (vl [I 2, I 3, I 4, I 5])),
 (6278, .c 3 .no false 3 1 (vl [I 6, I 9, I 36])),
 (6285, .c 3 .no false 2 1 (vl [I 7, I 8])),
 (6298, .c 3 .no false 2 1 (vl [I 10, I 13])),
 (6305, .c 3 .no false 2 1 (vl [I 11, I 12])),
 (6318, .c 3 .no false 2 1 (vl [I 14, I 18])),
 (6323, .c 3 .no false 1 1 (vl [I 15])),
 (6330, .c 3 .no false 2 1 (vl [I 16, I 17])),
 (6345, .c 3 .no false 3 1 (vl [I 19, I 27, I 28])),
 (6352, .c 3 .no false 2 1 (vl [I 20, I 26])),
 (6357, .c 3 .no false 1 1 (vl [I 21])),
 (6366, .c 3 .no false 3 1 (vl [I 22, I 23, I 24])),
 (6377, .c 3 .no false 1 1 (vl [I 25])),
 (6393, .c 3 .no false 2 1 (vl [I 29, I 35])),
 (6398, .c 3 .no false 1 1 (vl [I 30])),
 (6407, .c 3 .no false 3 1 (vl [I 31, I 32, I 33])),
 (6418, .c 3 .no false 1 1 (vl [I 34])),
 (6429, .c 3 .no false 1 1 (vl [I 37])),
 (6436, .c 3 .no false 2 1 (vl [I 1, I 38])),
 (6443, .c 3 .no false 3 1 (vl [I 39, I 49, I 58])),
 (6448, .c 3 .no false 1 1 (vl [I 40])),
 (6453, .c 3 .no false 1 1 (vl [I 41])),
 (6462, .c 3 .no false 3 1 (vl [I 42, I 43, I 44])),
 (6473, .c 3 .no false 1 1 (vl [I 45])),
 (6482, .c 3 .no false 3 1 (vl [I 46, I 47, I 48])),
 (6496, .c 3 .no false 1 1 (vl [I 50])),
 (6501, .c 3 .no false 1 1 (vl [I 51])),
 (6506, .c 3 .no false 1 1 (vl [I 52])),
 (6515, .c 3 .no false 3 1 (vl [I 53, I 54, I 55])),
 (6528, .c 3 .no false 2 1 (vl [I 56, I 57])),
 (6539, .c 47 .no false 295 5 (vl [I 3, .s 1, I 0, .r (.so 6436 1 0 2), I 0, I 41, .s 358, I 0, .r (.so 6260 1 0 4), I 0, I 2, .s 1, I 0, .r .ns, I 10, I 2, .s 1, I 0, .r .ns, I 11, I 1, .s 1, I 0, .r .ns, I 13, I 63, .s 1, I 0, .r (.so 6278 1 0 3), I 13, I 40, .s 366, I 0, .r (.so 6285 1 0 2), I 15, I 1, .s 1, I 0, .r .ns, I 21, I 10, .s 1, I 0, .r .ns, I 23, I 54, .s 1, I 0, .r (.so 6298 1 0 2), I 26, I 24, .s 316, I 0, .r (.so 6305 1 0 2), I 33, I 17, .s 366, I 0, .r .ns, I 33, I 10, .s 1, I 1, .r .ns, I 37, I 63, .s 1, I 0, .r (.so 6318 1 0 2), I 40, I 64, .s 1, I 0, .r (.so 6323 1 0 1), I 42, I 26, .s 81195, I 0, .r (.so 6330 1 0 2), I 42, I 17, .s 366, I 0, .r .ns, I 42, I 10, .s 1, I 1, .r .ns, I 47, I 61, .s 1, I 0, .r (.so 6345 1 0 3), I 50, I 63, .s 1, I 0, .r (.so 6352 1 0 2), I 54, I 64, .s 1, I 0, .r (.so 6357 1 0 1), I 56, I 27, .s 1, I 0, .r (.so 6366 1 0 3), I 56, I 17, .s 1599580238448, I 0, .r .ns, I 56, I 2, .s 1, I 0, .r .ns, I 61, I 2, .s 1, I 0, .r (.so 6377 1 0 1), I 62, I 10, .s 1, I 1, .r .ns, I 62, I 59, .s 1, I 0, .r .ns, I 66, I 1, .s 1, I 0, .r .ns, I 78, I 63, .s 1, I 0, .r (.so 6393 1 0 2), I 86, I 64, .s 1, I 0, .r (.so 6398 1 0 1), I 88, I 27, .s 1, I 0, .r (.so 6407 1 0 3), I 88, I 17, .s 1599580238448, I 0, .r .ns, I 88, I 2, .s 1, I 0, .r .ns, I 93, I 2, .s 1, I 0, .r (.so 6418 1 0 1), I 94, I 10, .s 1, I 2, .r .ns, I 94, I 58, .s 1, I 0, .r .ns, I 98, I 57, .s 1, I 0, .r (.so 6429 1 0 1), I 109, I 10, .s 1, I 9, .r .ns, I 116, I 61, .s 1, I 0, .r (.so 6443 1 0 3), I 121, I 63, .s 1, I 0, .r (.so 6448 1 0 1), I 125, I 64, .s 1, I 0, .r (.so 6453 1 0 1), I 127, I 27, .s 1, I 0, .r (.so 6462 1 0 3), I 127, I 17, .s 1599580238448, I 0, .r .ns, I 127, I 2, .s 1, I 0, .r .ns, I 132, I 2, .s 1, I 0, .r (.so 6473 1 0 1), I 133, I 27, .s 1, I 0, .r (.so 6482 1 0 3), I 133, I 17, .s 358, I 0, .r .ns, I 133, I 2, .s 1, I 0, .r .ns, I 134, I 2, .s 1, I 0, .r .ns, I 135, I 62, .s 357, I 0, .r (.so 6496 1 0 1), I 141, I 63, .s 1, I 0, .r (.so 6501 1 0 1), I 151, I 64, .s 1, I 0, .r (.so 6506 1 0 1), I 153, I 27, .s 1, I 0, .r (.so 6515 1 0 3), I 153, I 17, .s 1599580238448, I 0, .r .ns, I 153, I 2, .s 1, I 0, .r .ns, I 158, I 2, .s 1, I 0, .r (.so 6528 1 0 2), I 159, I 11, .s 355, I 0, .r .ns, I 159, I 17, .s 357, I 0, .r .ns, I 164, I 1, .s 1, I 0, .r .ns, I 169]))]
theorem g43 : callF E0 300 false 10 s43.a (ofL s43.n0 s43.l0) s43.fin = true := by decide +kernel
theorem m43 : callF (EG (unFin (I 4) (I 3)) 10 [s43]) 300 false 3 un2 (h0N 0) isT = true := by decide +kernel
end
end Go.Proofs.YtbccefdijpmkbaaGreatDoor
