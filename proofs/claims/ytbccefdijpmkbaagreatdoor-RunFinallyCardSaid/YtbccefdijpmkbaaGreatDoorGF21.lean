/-
  Part of a proof: RunFinally, remainders 2 and 1, evaluated; no conditions.
-/
import Derived.Test.YtbccefdijpmkbaaGreatDoorGFd
set_option linter.constructorNameAsVariable false
set_option linter.unusedVariables false
set_option linter.unusedSimpArgs false
set_option linter.unusedSectionVars false
set_option linter.unusedVariables false
set_option maxRecDepth 100000
namespace Go.Proofs.YtbccefdijpmkbaaGreatDoor
open Go Go.Ev
noncomputable section
def s21 : Seg where
  a := vl [.r (.so 35 1 0 171)]
  n0 := 36
  l0 := [(35, .c 5 .st false 171 8 (tb 9590970806393534452819893712638321776003902090741210608655817143677793163325504916278181137682954338742356010688418136956132040207310923691672963965366303396994356712336187425754193079032270881439894102387791077331051808900883568424313340073799076717828866403043921328483703460169451411502626013151509949261622590229623513903415381269603761440792624666426400902797002419413026562493245343526173579962279573484902))]
  v := .t (vl [.a (vl [.r (.so 7174 5 0 61)]), I 0, I 0])
  n1 := 7179
  l1 := [(35, .c 5 .st false 171 8 (tb 9590970806393534452819893712638321776003902090741210608655817143677793163325504916278181137682954338742356010688418136956132040207310923691672963965366303396994356712336187425754193079032270881439894102387791077331051808900883568424313340073799076717828866403043921328483703460169451411502626013151509949261622590229623513903415381269603761440792624666426400902797002419413026562493245343526173579962279573484902)),
 (6885, .c 3 .no false 4 1 (vl [I 2, I 3, I 4, I 5])),
 (6903, .c 3 .no false 3 1 (vl [I 6, I 9, I 38])),
 (6910, .c 3 .no false 2 1 (vl [I 7, I 8])),
 (6923, .c 3 .no false 2 1 (vl [I 10, I 13])),
 (6930, .c 3 .no false 2 1 (vl [I 11, I 12])),
 (6943, .c 3 .no false 2 1 (vl [I 14, I 18])),
 (6948, .c 3 .no false 1 1 (vl [I 15])),
 (6955, .c 3 .no false 2 1 (vl [I 16, I 17])),
 (6970, .c 3 .no false 3 1 (vl [I 19, I 28, I 29])),
 (6977, .c 3 .no false 2 1 (vl [I 20, I 26])),
 (6982, .c 3 .no false 1 1 (vl [I 21])),
 (6991, .c 3 .no false 3 1 (vl [I 22, I 23, I 24])),
 (7002, .c 3 .no false 1 1 (vl [I 25])),
 (7010, .c 3 .no false 1 1 (vl [I 27])),
 (7023, .c 3 .no false 2 1 (vl [I 30, I 36])),
 (7028, .c 3 .no false 1 1 (vl [I 31])),
 (7037, .c 3 .no false 3 1 (vl [I 32, I 33, I 34])),
 (7048, .c 3 .no false 1 1 (vl [I 35])),
 (7056, .c 3 .no false 1 1 (vl [I 37])),
 (7064, .c 3 .no false 1 1 (vl [I 39])),
 (7071, .c 3 .no false 2 1 (vl [I 1, I 40])),
 (7078, .c 3 .no false 3 1 (vl [I 41, I 51, I 60])),
 (7083, .c 3 .no false 1 1 (vl [I 42])),
 (7088, .c 3 .no false 1 1 (vl [I 43])),
 (7097, .c 3 .no false 3 1 (vl [I 44, I 45, I 46])),
 (7108, .c 3 .no false 1 1 (vl [I 47])),
 (7117, .c 3 .no false 3 1 (vl [I 48, I 49, I 50])),
 (7131, .c 3 .no false 1 1 (vl [I 52])),
 (7136, .c 3 .no false 1 1 (vl [I 53])),
 (7141, .c 3 .no false 1 1 (vl [I 54])),
 (7150, .c 3 .no false 3 1 (vl [I 55, I 56, I 57])),
 (7163, .c 3 .no false 2 1 (vl [I 58, I 59])),
 (7174, .c 47 .no false 305 5 (vl [I 3, .s 1, I 0, .r (.so 7071 1 0 2), I 0, I 41, .s 358, I 0, .r (.so 6885 1 0 4), I 0, I 2, .s 1, I 0, .r .ns, I 10, I 2, .s 1, I 0, .r .ns, I 11, I 1, .s 1, I 0, .r .ns, I 13, I 63, .s 1, I 0, .r (.so 6903 1 0 3), I 13, I 40, .s 366, I 0, .r (.so 6910 1 0 2), I 15, I 1, .s 1, I 0, .r .ns, I 21, I 10, .s 1, I 0, .r .ns, I 23, I 54, .s 1, I 0, .r (.so 6923 1 0 2), I 26, I 24, .s 316, I 0, .r (.so 6930 1 0 2), I 33, I 17, .s 366, I 0, .r .ns, I 33, I 10, .s 1, I 1, .r .ns, I 37, I 63, .s 1, I 0, .r (.so 6943 1 0 2), I 40, I 64, .s 1, I 0, .r (.so 6948 1 0 1), I 42, I 26, .s 81195, I 0, .r (.so 6955 1 0 2), I 42, I 17, .s 366, I 0, .r .ns, I 42, I 10, .s 1, I 1, .r .ns, I 47, I 61, .s 1, I 0, .r (.so 6970 1 0 3), I 50, I 63, .s 1, I 0, .r (.so 6977 1 0 2), I 54, I 64, .s 1, I 0, .r (.so 6982 1 0 1), I 56, I 27, .s 1, I 0, .r (.so 6991 1 0 3), I 56, I 17, .s 1599580238448, I 0, .r .ns, I 56, I 2, .s 1, I 0, .r .ns, I 61, I 2, .s 1, I 0, .r (.so 7002 1 0 1), I 62, I 10, .s 1, I 1, .r .ns, I 62, I 60, .s 1, I 0, .r (.so 7010 1 0 1), I 66, I 10, .s 1, I 6, .r .ns, I 72, I 1, .s 1, I 0, .r .ns, I 77, I 63, .s 1, I 0, .r (.so 7023 1 0 2), I 85, I 64, .s 1, I 0, .r (.so 7028 1 0 1), I 87, I 27, .s 1, I 0, .r (.so 7037 1 0 3), I 87, I 17, .s 1599580238448, I 0, .r .ns, I 87, I 2, .s 1, I 0, .r .ns, I 92, I 2, .s 1, I 0, .r (.so 7048 1 0 1), I 93, I 10, .s 1, I 2, .r .ns, I 93, I 57, .s 1, I 0, .r (.so 7056 1 0 1), I 97, I 10, .s 1, I 7, .r .ns, I 104, I 57, .s 1, I 0, .r (.so 7064 1 0 1), I 111, I 10, .s 1, I 9, .r .ns, I 118, I 61, .s 1, I 0, .r (.so 7078 1 0 3), I 123, I 63, .s 1, I 0, .r (.so 7083 1 0 1), I 127, I 64, .s 1, I 0, .r (.so 7088 1 0 1), I 129, I 27, .s 1, I 0, .r (.so 7097 1 0 3), I 129, I 17, .s 1599580238448, I 0, .r .ns, I 129, I 2, .s 1, I 0, .r .ns, I 134, I 2, .s 1, I 0, .r (.so 7108 1 0 1), I 135, I 27, .s 1, I 0, .r (.so 7117 1 0 3), I 135, I 17, .s 358, I 0, .r .ns, I 135, I 2, .s 1, I 0, .r .ns, I 136, I 2, .s 1, I 0, .r .ns, I 137, I 62, .s 357, I 0, .r (.so 7131 1 0 1), I 143, I 63, .s 1, I 0, .r (.so 7136 1 0 1), I 153, I 64, .s 1, I 0, .r (.so 7141 1 0 1), I 155, I 27, .s 1, I 0, .r (.so 7150 1 0 3), I 155, I 17, .s 1599580238448, I 0, .r .ns, I 155, I 2, .s 1, I 0, .r .ns, I 160, I 2, .s 1, I 0, .r (.so 7163 1 0 2), I 161, I 11, .s 355, I 0, .r .ns, I 161, I 17, .s 357, I 0, .r .ns, I 166, I 1, .s 1, I 0, .r .ns, I 171]))]
theorem g21 : callF E0 300 false 10 s21.a (ofL s21.n0 s21.l0) s21.fin = true := by decide +kernel
theorem m21 : callF (EG (unFin (I 2) (I 1)) 10 [s21]) 300 false 3 un2 (h0N 0) isT = true := by decide +kernel
end
end Go.Proofs.YtbccefdijpmkbaaGreatDoor
