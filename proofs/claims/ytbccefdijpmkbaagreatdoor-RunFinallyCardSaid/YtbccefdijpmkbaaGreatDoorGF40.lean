/-
  Part of a proof: RunFinally, remainders 4 and 0, evaluated; no conditions.
-/
import Derived.Test.YtbccefdijpmkbaaGreatDoorGFd
set_option linter.constructorNameAsVariable false
set_option linter.unusedVariables false
set_option linter.unusedSimpArgs false
set_option linter.unusedSectionVars false
set_option linter.unusedVariables false
set_option maxRecDepth 100000
namespace Go.Proofs.YtbccefdijpmkbaaGreatDoor
open Go Go.Ev
noncomputable section
def s40 : Seg where
  a := vl [.r (.so 35 1 0 162)]
  n0 := 36
  l0 := [(35, .c 5 .st false 162 8 (tb 2030967067292367264344581329960333947654614830384862497100283841008221149336383661629316773487442391542112411792119882664354383014786528046703322559786264165927860385424473857688792719796176915064602202933095550732823474443705934870465279294463804924471081960591860116905191087050263850794706070066066213121039339018861322384573063333403502146082550748327731664326372341133717442450307315046))]
  v := .t (vl [.a (vl [.r (.so 6476 5 0 58)]), I 0, I 0])
  n1 := 6481
  l1 := [(35, .c 5 .st false 162 8 (tb 2030967067292367264344581329960333947654614830384862497100283841008221149336383661629316773487442391542112411792119882664354383014786528046703322559786264165927860385424473857688792719796176915064602202933095550732823474443705934870465279294463804924471081960591860116905191087050263850794706070066066213121039339018861322384573063333403502146082550748327731664326372341133717442450307315046)),
 (6202, .c 3 .no false 4 1 (vl [I 2, I 3, I 4, I 5])),
 (6220, .c 3 .no false 3 1 (vl [I 6, I 9, I 35])),
 (6227, .c 3 .no false 2 1 (vl [I 7, I 8])),
 (6240, .c 3 .no false 2 1 (vl [I 10, I 13])),
 (6247, .c 3 .no false 2 1 (vl [I 11, I 12])),
 (6260, .c 3 .no false 2 1 (vl [I 14, I 18])),
 (6265, .c 3 .no false 1 1 (vl [I 15])),
 (6272, .c 3 .no false 2 1 (vl [I 16, I 17])),
 (6287, .c 3 .no false 3 1 (vl [I 19, I 27, I 28])),
 (6294, .c 3 .no false 2 1 (vl [I 20, I 26])),
 (6299, .c 3 .no false 1 1 (vl [I 21])),
 (6308, .c 3 .no false 3 1 (vl [I 22, I 23, I 24])),
 (6319, .c 3 .no false 1 1 (vl [I 25])),
 (6333, .c 3 .no false 1 1 (vl [I 29])),
 (6338, .c 3 .no false 1 1 (vl [I 30])),
 (6347, .c 3 .no false 3 1 (vl [I 31, I 32, I 33])),
 (6358, .c 3 .no false 1 1 (vl [I 34])),
 (6366, .c 3 .no false 1 1 (vl [I 36])),
 (6373, .c 3 .no false 2 1 (vl [I 1, I 37])),
 (6380, .c 3 .no false 3 1 (vl [I 38, I 48, I 57])),
 (6385, .c 3 .no false 1 1 (vl [I 39])),
 (6390, .c 3 .no false 1 1 (vl [I 40])),
 (6399, .c 3 .no false 3 1 (vl [I 41, I 42, I 43])),
 (6410, .c 3 .no false 1 1 (vl [I 44])),
 (6419, .c 3 .no false 3 1 (vl [I 45, I 46, I 47])),
 (6433, .c 3 .no false 1 1 (vl [I 49])),
 (6438, .c 3 .no false 1 1 (vl [I 50])),
 (6443, .c 3 .no false 1 1 (vl [I 51])),
 (6452, .c 3 .no false 3 1 (vl [I 52, I 53, I 54])),
 (6465, .c 3 .no false 2 1 (vl [I 55, I 56])),
 (6476, .c 47 .no false 290 5 (vl [I 3, .s 1, I 0, .r (.so 6373 1 0 2), I 0, I 41, .s 358, I 0, .r (.so 6202 1 0 4), I 0, I 2, .s 1, I 0, .r .ns, I 10, I 2, .s 1, I 0, .r .ns, I 11, I 1, .s 1, I 0, .r .ns, I 13, I 63, .s 1, I 0, .r (.so 6220 1 0 3), I 13, I 40, .s 366, I 0, .r (.so 6227 1 0 2), I 15, I 1, .s 1, I 0, .r .ns, I 21, I 10, .s 1, I 0, .r .ns, I 23, I 54, .s 1, I 0, .r (.so 6240 1 0 2), I 26, I 24, .s 316, I 0, .r (.so 6247 1 0 2), I 33, I 17, .s 366, I 0, .r .ns, I 33, I 10, .s 1, I 1, .r .ns, I 37, I 63, .s 1, I 0, .r (.so 6260 1 0 2), I 40, I 64, .s 1, I 0, .r (.so 6265 1 0 1), I 42, I 26, .s 81195, I 0, .r (.so 6272 1 0 2), I 42, I 17, .s 366, I 0, .r .ns, I 42, I 10, .s 1, I 1, .r .ns, I 47, I 61, .s 1, I 0, .r (.so 6287 1 0 3), I 50, I 63, .s 1, I 0, .r (.so 6294 1 0 2), I 54, I 64, .s 1, I 0, .r (.so 6299 1 0 1), I 56, I 27, .s 1, I 0, .r (.so 6308 1 0 3), I 56, I 17, .s 1599580238448, I 0, .r .ns, I 56, I 2, .s 1, I 0, .r .ns, I 61, I 2, .s 1, I 0, .r (.so 6319 1 0 1), I 62, I 10, .s 1, I 1, .r .ns, I 62, I 59, .s 1, I 0, .r .ns, I 66, I 1, .s 1, I 0, .r .ns, I 78, I 63, .s 1, I 0, .r (.so 6333 1 0 1), I 86, I 64, .s 1, I 0, .r (.so 6338 1 0 1), I 88, I 27, .s 1, I 0, .r (.so 6347 1 0 3), I 88, I 17, .s 1599580238448, I 0, .r .ns, I 88, I 2, .s 1, I 0, .r .ns, I 93, I 2, .s 1, I 0, .r (.so 6358 1 0 1), I 94, I 10, .s 1, I 2, .r .ns, I 94, I 57, .s 1, I 0, .r (.so 6366 1 0 1), I 102, I 10, .s 1, I 9, .r .ns, I 109, I 61, .s 1, I 0, .r (.so 6380 1 0 3), I 114, I 63, .s 1, I 0, .r (.so 6385 1 0 1), I 118, I 64, .s 1, I 0, .r (.so 6390 1 0 1), I 120, I 27, .s 1, I 0, .r (.so 6399 1 0 3), I 120, I 17, .s 1599580238448, I 0, .r .ns, I 120, I 2, .s 1, I 0, .r .ns, I 125, I 2, .s 1, I 0, .r (.so 6410 1 0 1), I 126, I 27, .s 1, I 0, .r (.so 6419 1 0 3), I 126, I 17, .s 358, I 0, .r .ns, I 126, I 2, .s 1, I 0, .r .ns, I 127, I 2, .s 1, I 0, .r .ns, I 128, I 62, .s 357, I 0, .r (.so 6433 1 0 1), I 134, I 63, .s 1, I 0, .r (.so 6438 1 0 1), I 144, I 64, .s 1, I 0, .r (.so 6443 1 0 1), I 146, I 27, .s 1, I 0, .r (.so 6452 1 0 3), I 146, I 17, .s 1599580238448, I 0, .r .ns, I 146, I 2, .s 1, I 0, .r .ns, I 151, I 2, .s 1, I 0, .r (.so 6465 1 0 2), I 152, I 11, .s 355, I 0, .r .ns, I 152, I 17, .s 357, I 0, .r .ns, I 157, I 1, .s 1, I 0, .r .ns, I 162]))]
theorem g40 : callF E0 300 false 10 s40.a (ofL s40.n0 s40.l0) s40.fin = true := by decide +kernel
theorem m40 : callF (EG (unFin (I 4) (I 0)) 10 [s40]) 300 false 3 un2 (h0N 0) isT = true := by decide +kernel
end
end Go.Proofs.YtbccefdijpmkbaaGreatDoor
