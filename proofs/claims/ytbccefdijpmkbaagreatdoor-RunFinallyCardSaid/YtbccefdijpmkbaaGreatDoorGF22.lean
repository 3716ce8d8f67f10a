/-
  Part of a proof: RunFinally, remainders 2 and 2, evaluated; no conditions.
-/
import Derived.Test.YtbccefdijpmkbaaGreatDoorGFd
set_option linter.constructorNameAsVariable false
set_option linter.unusedVariables false
set_option linter.unusedSimpArgs false
set_option linter.unusedSectionVars false
set_option linter.unusedVariables false
set_option maxRecDepth 100000
namespace Go.Proofs.YtbccefdijpmkbaaGreatDoor
open Go Go.Ev
noncomputable section
def s22 : Seg where
  a := vl [.r (.so 35 1 0 170)]
  n0 := 36
  l0 := [(35, .c 5 .st false 170 8 (tb 37464729712474743956327709814993444437515242541957853940061785717491379544240253579211645069074040385712328166751633347484890782059808295670597515489712122644509317793624685528816548792904994472439358715339004579322894343634375612254852239919135236706438840174795343966321338541867744419528909986467450948279340486557502244568609494843782974558260752202321154321161926415758957231427596702002911392889373095270))]
  v := .t (vl [.a (vl [.r (.so 7167 5 0 61)]), I 0, I 0])
  n1 := 7172
  l1 := [(35, .c 5 .st false 170 8 (tb 37464729712474743956327709814993444437515242541957853940061785717491379544240253579211645069074040385712328166751633347484890782059808295670597515489712122644509317793624685528816548792904994472439358715339004579322894343634375612254852239919135236706438840174795343966321338541867744419528909986467450948279340486557502244568609494843782974558260752202321154321161926415758957231427596702002911392889373095270)),
 (6878, .c 3 .no false 4 1 (vl [I 2, I 3, I 4, I 5])),
 (6896, .c 3 .no false 3 1 (vl [I 6, I 9, I 38])),
 (6903, .c 3 .no false 2 1 (vl [I 7, I 8])),
 (6916, .c 3 .no false 2 1 (vl [I 10, I 13])),
 (6923, .c 3 .no false 2 1 (vl [I 11, I 12])),
 (6936, .c 3 .no false 2 1 (vl [I 14, I 18])),
 (6941, .c 3 .no false 1 1 (vl [I 15])),
 (6948, .c 3 .no false 2 1 (vl [I 16, I 17])),
 (6963, .c 3 .no false 3 1 (vl [I 19, I 28, I 29])),
 (6970, .c 3 .no false 2 1 (vl [I 20, I 26])),
 (6975, .c 3 .no false 1 1 (vl [I 21])),
 (6984, .c 3 .no false 3 1 (vl [I 22, I 23, I 24])),
 (6995, .c 3 .no false 1 1 (vl [I 25])),
 (7003, .c 3 .no false 1 1 (vl [I 27])),
 (7016, .c 3 .no false 2 1 (vl [I 30, I 36])),
 (7021, .c 3 .no false 1 1 (vl [I 31])),
 (7030, .c 3 .no false 3 1 (vl [I 32, I 33, I 34])),
 (7041, .c 3 .no false 1 1 (vl [I 35])),
 (7049, .c 3 .no false 1 1 (vl [I 37])),
 (7057, .c 3 .no false 1 1 (vl [I 39])),
 (7064, .c 3 .no false 2 1 (vl [I 1, I 40])),
 (7071, .c 3 .no false 3 1 (vl [I 41, I 51, I 60])),
 (7076, .c 3 .no false 1 1 (vl [I 42])),
 (7081, .c 3 .no false 1 1 (vl [I 43])),
 (7090, .c 3 .no false 3 1 (vl [I 44, I 45, I 46])),
 (7101, .c 3 .no false 1 1 (vl [I 47])),
 (7110, .c 3 .no false 3 1 (vl [I 48, I 49, I 50])),
 (7124, .c 3 .no false 1 1 (vl [I 52])),
 (7129, .c 3 .no false 1 1 (vl [I 53])),
 (7134, .c 3 .no false 1 1 (vl [I 54])),
 (7143, .c 3 .no false 3 1 (vl [I 55, I 56, I 57])),
 (7156, .c 3 .no false 2 1 (vl [I 58, I 59])),
 (7167, .c 47 .no false 305 5 (vl [I 3, .s 1, I 0, .r (.so 7064 1 0 2), I 0, I 41, .s 358, I 0, .r (.so 6878 1 0 4), I 0, I 2, .s 1, I 0, .r .ns, I 10, I 2, .s 1, I 0, .r .ns, I 11, I 1, .s 1, I 0, .r .ns, I 13, I 63, .s 1, I 0, .r (.so 6896 1 0 3), I 13, I 40, .s 366, I 0, .r (.so 6903 1 0 2), I 15, I 1, .s 1, I 0, .r .ns, I 21, I 10, .s 1, I 0, .r .ns, I 23, I 54, .s 1, I 0, .r (.so 6916 1 0 2), I 26, I 24, .s 316, I 0, .r (.so 6923 1 0 2), I 33, I 17, .s 366, I 0, .r .ns, I 33, I 10, .s 1, I 1, .r .ns, I 37, I 63, .s 1, I 0, .r (.so 6936 1 0 2), I 40, I 64, .s 1, I 0, .r (.so 6941 1 0 1), I 42, I 26, .s 81195, I 0, .r (.so 6948 1 0 2), I 42, I 17, .s 366, I 0, .r .ns, I 42, I 10, .s 1, I 1, .r .ns, I 47, I 61, .s 1, I 0, .r (.so 6963 1 0 3), I 50, I 63, .s 1, I 0, .r (.so 6970 1 0 2), I 54, I 64, .s 1, I 0, .r (.so 6975 1 0 1), I 56, I 27, .s 1, I 0, .r (.so 6984 1 0 3), I 56, I 17, .s 1599580238448, I 0, .r .ns, I 56, I 2, .s 1, I 0, .r .ns, I 61, I 2, .s 1, I 0, .r (.so 6995 1 0 1), I 62, I 10, .s 1, I 1, .r .ns, I 62, I 60, .s 1, I 0, .r (.so 7003 1 0 1), I 66, I 10, .s 1, I 6, .r .ns, I 72, I 1, .s 1, I 0, .r .ns, I 77, I 63, .s 1, I 0, .r (.so 7016 1 0 2), I 85, I 64, .s 1, I 0, .r (.so 7021 1 0 1), I 87, I 27, .s 1, I 0, .r (.so 7030 1 0 3), I 87, I 17, .s 1599580238448, I 0, .r .ns, I 87, I 2, .s 1, I 0, .r .ns, I 92, I 2, .s 1, I 0, .r (.so 7041 1 0 1), I 93, I 10, .s 1, I 2, .r .ns, I 93, I 60, .s 1, I 0, .r (.so 7049 1 0 1), I 97, I 10, .s 1, I 8, .r .ns, I 103, I 57, .s 1, I 0, .r (.so 7057 1 0 1), I 110, I 10, .s 1, I 9, .r .ns, I 117, I 61, .s 1, I 0, .r (.so 7071 1 0 3), I 122, I 63, .s 1, I 0, .r (.so 7076 1 0 1), I 126, I 64, .s 1, I 0, .r (.so 7081 1 0 1), I 128, I 27, .s 1, I 0, .r (.so 7090 1 0 3), I 128, I 17, .s 1599580238448, I 0, .r .ns, I 128, I 2, .s 1, I 0, .r .ns, I 133, I 2, .s 1, I 0, .r (.so 7101 1 0 1), I 134, I 27, .s 1, I 0, .r (.so 7110 1 0 3), I 134, I 17, .s 358, I 0, .r .ns, I 134, I 2, .s 1, I 0, .r .ns, I 135, I 2, .s 1, I 0, .r .ns, I 136, I 62, .s 357, I 0, .r (.so 7124 1 0 1), I 142, I 63, .s 1, I 0, .r (.so 7129 1 0 1), I 152, I 64, .s 1, I 0, .r (.so 7134 1 0 1), I 154, I 27, .s 1, I 0, .r (.so 7143 1 0 3), I 154, I 17, .s 1599580238448, I 0, .r .ns, I 154, I 2, .s 1, I 0, .r .ns, I 159, I 2, .s 1, I 0, .r (.so 7156 1 0 2), I 160, I 11, .s 355, I 0, .r .ns, I 160, I 17, .s 357, I 0, .r .ns, I 165, I 1, .s 1, I 0, .r .ns, I 170]))]
theorem g22 : callF E0 300 false 10 s22.a (ofL s22.n0 s22.l0) s22.fin = true := by decide +kernel
theorem m22 : callF (EG (unFin (I 2) (I 2)) 10 [s22]) 300 false 3 un2 (h0N 0) isT = true := by decide +kernel
end
end Go.Proofs.YtbccefdijpmkbaaGreatDoor
