/-
  Part of a proof: RunFinally, remainders 0 and 0, evaluated; no conditions.
-/
import Derived.Test.YtbccefdijpmkbaaGreatDoorGFd
set_option linter.constructorNameAsVariable false
set_option linter.unusedVariables false
set_option linter.unusedSimpArgs false
set_option linter.unusedSectionVars false
set_option linter.unusedVariables false
set_option maxRecDepth 100000
namespace Go.Proofs.YtbccefdijpmkbaaGreatDoor
open Go Go.Ev
noncomputable section
def s00 : Seg where
  a := vl [.r (.so 35 1 0 152)]
  n0 := 36
  l0 := [(35, .c 5 .st false 152 8 (tb 1679976582797926531614418265300999908889202871837264951990223060927751000895746962285181426120685054478692917775739029840884336312550995200860675361877842061549802127174367859822485089287226746069416645351045825172112556984518325627949821532892952938150413724800753532699035204535931933054325621820030239515047807583764444336230025613013576692949429044896470599103846))]
  v := .t (vl [.a (vl [.r (.so 6413 5 0 57)]), I 0, I 0])
  n1 := 6418
  l1 := [(35, .c 5 .st false 152 8 (tb 1679976582797926531614418265300999908889202871837264951990223060927751000895746962285181426120685054478692917775739029840884336312550995200860675361877842061549802127174367859822485089287226746069416645351045825172112556984518325627949821532892952938150413724800753532699035204535931933054325621820030239515047807583764444336230025613013576692949429044896470599103846)),
 (6144, .c 3 .no false 4 1 (vl [I 2, I 3, I 4, I 5])),
 (6162, .c 3 .no false 3 1 (vl [I 6, I 9, I 34])),
 (6169, .c 3 .no false 2 1 (vl [I 7, I 8])),
 (6182, .c 3 .no false 2 1 (vl [I 10, I 13])),
 (6189, .c 3 .no false 2 1 (vl [I 11, I 12])),
 (6202, .c 3 .no false 2 1 (vl [I 14, I 18])),
 (6207, .c 3 .no false 1 1 (vl [I 15])),
 (6214, .c 3 .no false 2 1 (vl [I 16, I 17])),
 (6229, .c 3 .no false 3 1 (vl [I 19, I 26, I 27])),
 (6234, .c 3 .no false 1 1 (vl [I 20])),
 (6239, .c 3 .no false 1 1 (vl [I 21])),
 (6248, .c 3 .no false 3 1 (vl [I 22, I 23, I 24])),
 (6259, .c 3 .no false 1 1 (vl [I 25])),
 (6270, .c 3 .no false 1 1 (vl [I 28])),
 (6275, .c 3 .no false 1 1 (vl [I 29])),
 (6284, .c 3 .no false 3 1 (vl [I 30, I 31, I 32])),
 (6295, .c 3 .no false 1 1 (vl [I 33])),
 (6303, .c 3 .no false 1 1 (vl [I 35])),
 (6310, .c 3 .no false 2 1 (vl [I 1, I 36])),
 (6317, .c 3 .no false 3 1 (vl [I 37, I 47, I 56])),
 (6322, .c 3 .no false 1 1 (vl [I 38])),
 (6327, .c 3 .no false 1 1 (vl [I 39])),
 (6336, .c 3 .no false 3 1 (vl [I 40, I 41, I 42])),
 (6347, .c 3 .no false 1 1 (vl [I 43])),
 (6356, .c 3 .no false 3 1 (vl [I 44, I 45, I 46])),
 (6370, .c 3 .no false 1 1 (vl [I 48])),
 (6375, .c 3 .no false 1 1 (vl [I 49])),
 (6380, .c 3 .no false 1 1 (vl [I 50])),
 (6389, .c 3 .no false 3 1 (vl [I 51, I 52, I 53])),
 (6402, .c 3 .no false 2 1 (vl [I 54, I 55])),
 (6413, .c 47 .no false 285 5 (vl [I 3, .s 1, I 0, .r (.so 6310 1 0 2), I 0, I 41, .s 358, I 0, .r (.so 6144 1 0 4), I 0, I 2, .s 1, I 0, .r .ns, I 10, I 2, .s 1, I 0, .r .ns, I 11, I 1, .s 1, I 0, .r .ns, I 13, I 63, .s 1, I 0, .r (.so 6162 1 0 3), I 13, I 40, .s 366, I 0, .r (.so 6169 1 0 2), I 15, I 1, .s 1, I 0, .r .ns, I 21, I 10, .s 1, I 0, .r .ns, I 23, I 54, .s 1, I 0, .r (.so 6182 1 0 2), I 26, I 24, .s 316, I 0, .r (.so 6189 1 0 2), I 33, I 17, .s 366, I 0, .r .ns, I 33, I 10, .s 1, I 1, .r .ns, I 37, I 63, .s 1, I 0, .r (.so 6202 1 0 2), I 40, I 64, .s 1, I 0, .r (.so 6207 1 0 1), I 42, I 26, .s 81195, I 0, .r (.so 6214 1 0 2), I 42, I 17, .s 366, I 0, .r .ns, I 42, I 10, .s 1, I 1, .r .ns, I 47, I 61, .s 1, I 0, .r (.so 6229 1 0 3), I 50, I 63, .s 1, I 0, .r (.so 6234 1 0 1), I 54, I 64, .s 1, I 0, .r (.so 6239 1 0 1), I 56, I 27, .s 1, I 0, .r (.so 6248 1 0 3), I 56, I 17, .s 1599580238448, I 0, .r .ns, I 56, I 2, .s 1, I 0, .r .ns, I 61, I 2, .s 1, I 0, .r (.so 6259 1 0 1), I 62, I 10, .s 1, I 1, .r .ns, I 62, I 1, .s 1, I 0, .r .ns, I 68, I 63, .s 1, I 0, .r (.so 6270 1 0 1), I 76, I 64, .s 1, I 0, .r (.so 6275 1 0 1), I 78, I 27, .s 1, I 0, .r (.so 6284 1 0 3), I 78, I 17, .s 1599580238448, I 0, .r .ns, I 78, I 2, .s 1, I 0, .r .ns, I 83, I 2, .s 1, I 0, .r (.so 6295 1 0 1), I 84, I 10, .s 1, I 2, .r .ns, I 84, I 57, .s 1, I 0, .r (.so 6303 1 0 1), I 92, I 10, .s 1, I 9, .r .ns, I 99, I 61, .s 1, I 0, .r (.so 6317 1 0 3), I 104, I 63, .s 1, I 0, .r (.so 6322 1 0 1), I 108, I 64, .s 1, I 0, .r (.so 6327 1 0 1), I 110, I 27, .s 1, I 0, .r (.so 6336 1 0 3), I 110, I 17, .s 1599580238448, I 0, .r .ns, I 110, I 2, .s 1, I 0, .r .ns, I 115, I 2, .s 1, I 0, .r (.so 6347 1 0 1), I 116, I 27, .s 1, I 0, .r (.so 6356 1 0 3), I 116, I 17, .s 358, I 0, .r .ns, I 116, I 2, .s 1, I 0, .r .ns, I 117, I 2, .s 1, I 0, .r .ns, I 118, I 62, .s 357, I 0, .r (.so 6370 1 0 1), I 124, I 63, .s 1, I 0, .r (.so 6375 1 0 1), I 134, I 64, .s 1, I 0, .r (.so 6380 1 0 1), I 136, I 27, .s 1, I 0, .r (.so 6389 1 0 3), I 136, I 17, .s 1599580238448, I 0, .r .ns, I 136, I 2, .s 1, I 0, .r .ns, I 141, I 2, .s 1, I 0, .r (.so 6402 1 0 2), I 142, I 11, .s 355, I 0, .r .ns, I 142, I 17, .s 357, I 0, .r .ns, I 147, I 1, .s 1, I 0, .r .ns, I 152]))]
theorem g00 : callF E0 300 false 10 s00.a (ofL s00.n0 s00.l0) s00.fin = true := by decide +kernel
theorem m00 : callF (EG (unFin (I 0) (I 0)) 10 [s00]) 300 false 3 un2 (h0N 0) isT = true := by decide +kernel
end
end Go.Proofs.YtbccefdijpmkbaaGreatDoor
