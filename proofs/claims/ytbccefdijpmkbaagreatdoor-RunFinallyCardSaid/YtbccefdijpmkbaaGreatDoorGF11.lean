/-
  Part of a proof: RunFinally, remainders 1 and 1, evaluated; no conditions.
-/
import Derived.Test.YtbccefdijpmkbaaGreatDoorGFd
set_option linter.constructorNameAsVariable false
set_option linter.unusedVariables false
set_option linter.unusedSimpArgs false
set_option linter.unusedSectionVars false
set_option linter.unusedVariables false
set_option maxRecDepth 100000
namespace Go.Proofs.YtbccefdijpmkbaaGreatDoor
open Go Go.Ev
noncomputable section
def s11 : Seg where
  a := vl [.r (.so 35 1 0 172)]
  n0 := 36
  l0 := [(35, .c 5 .st false 172 8 (tb 2455288526436744819921892790435410374656998935229749915815889188781515049811329258567214371246836310718043138736235043060769802293071596465068278775133773669630555318358063980993073428232261345648612890211274515796749263078626193516624214995567297020023767812894851599086363507664163664723877697795555298254292700335034880646542070574754011228183615504703363906832916567824551539940683888623716529874248480930559334))]
  v := .t (vl [.a (vl [.r (.so 7181 5 0 61)]), I 0, I 0])
  n1 := 7186
  l1 := [(35, .c 5 .st false 172 8 (tb 2455288526436744819921892790435410374656998935229749915815889188781515049811329258567214371246836310718043138736235043060769802293071596465068278775133773669630555318358063980993073428232261345648612890211274515796749263078626193516624214995567297020023767812894851599086363507664163664723877697795555298254292700335034880646542070574754011228183615504703363906832916567824551539940683888623716529874248480930559334)),
 (6892, .c 3 .no false 4 1 (vl [I 2, I 3, I 4, I 5])),
 (6910, .c 3 .no false 3 1 (vl [I 6, I 9, I 38])),
 (6917, .c 3 .no false 2 1 (vl [I 7, I 8])),
 (6930, .c 3 .no false 2 1 (vl [I 10, I 13])),
 (6937, .c 3 .no false 2 1 (vl [I 11, I 12])),
 (6950, .c 3 .no false 2 1 (vl [I 14, I 18])),
 (6955, .c 3 .no false 1 1 (vl [I 15])),
 (6962, .c 3 .no false 2 1 (vl [I 16, I 17])),
 (6977, .c 3 .no false 3 1 (vl [I 19, I 28, I 29])),
 (6984, .c 3 .no false 2 1 (vl [I 20, I 26])),
 (6989, .c 3 .no false 1 1 (vl [I 21])),
 (6998, .c 3 .no false 3 1 (vl [I 22, I 23, I 24])),
 (7009, .c 3 .no false 1 1 (vl [I 25])),
 (7017, .c 3 .no false 1 1 (vl [I 27])),
 (7030, .c 3 .no false 2 1 (vl [I 30, I 36])),
 (7035, .c 3 .no false 1 1 (vl [I 31])),
 (7044, .c 3 .no false 3 1 (vl [I 32, I 33, I 34])),
 (7055, .c 3 .no false 1 1 (vl [I 35])),
 (7063, .c 3 .no false 1 1 (vl [I 37])),
 (7071, .c 3 .no false 1 1 (vl [I 39])),
 (7078, .c 3 .no false 2 1 (vl [I 1, I 40])),
 (7085, .c 3 .no false 3 1 (vl [I 41, I 51, I 60])),
 (7090, .c 3 .no false 1 1 (vl [I 42])),
 (7095, .c 3 .no false 1 1 (vl [I 43])),
 (7104, .c 3 .no false 3 1 (vl [I 44, I 45, I 46])),
 (7115, .c 3 .no false 1 1 (vl [I 47])),
 (7124, .c 3 .no false 3 1 (vl [I 48, I 49, I 50])),
 (7138, .c 3 .no false 1 1 (vl [I 52])),
 (7143, .c 3 .no false 1 1 (vl [I 53])),
 (7148, .c 3 .no false 1 1 (vl [I 54])),
 (7157, .c 3 .no false 3 1 (vl [I 55, I 56, I 57])),
 (7170, .c 3 .no false 2 1 (vl [I 58, I 59])),
 (7181, .c 47 .no false 305 5 (vl [I 3, .s 1, I 0, .r (.so 7078 1 0 2), I 0, I 41, .s 358, I 0, .r (.so 6892 1 0 4), I 0, I 2, .s 1, I 0, .r .ns, I 10, I 2, .s 1, I 0, .r .ns, I 11, I 1, .s 1, I 0, .r .ns, I 13, I 63, .s 1, I 0, .r (.so 6910 1 0 3), I 13, I 40, .s 366, I 0, .r (.so 6917 1 0 2), I 15, I 1, .s 1, I 0, .r .ns, I 21, I 10, .s 1, I 0, .r .ns, I 23, I 54, .s 1, I 0, .r (.so 6930 1 0 2), I 26, I 24, .s 316, I 0, .r (.so 6937 1 0 2), I 33, I 17, .s 366, I 0, .r .ns, I 33, I 10, .s 1, I 1, .r .ns, I 37, I 63, .s 1, I 0, .r (.so 6950 1 0 2), I 40, I 64, .s 1, I 0, .r (.so 6955 1 0 1), I 42, I 26, .s 81195, I 0, .r (.so 6962 1 0 2), I 42, I 17, .s 366, I 0, .r .ns, I 42, I 10, .s 1, I 1, .r .ns, I 47, I 61, .s 1, I 0, .r (.so 6977 1 0 3), I 50, I 63, .s 1, I 0, .r (.so 6984 1 0 2), I 54, I 64, .s 1, I 0, .r (.so 6989 1 0 1), I 56, I 27, .s 1, I 0, .r (.so 6998 1 0 3), I 56, I 17, .s 1599580238448, I 0, .r .ns, I 56, I 2, .s 1, I 0, .r .ns, I 61, I 2, .s 1, I 0, .r (.so 7009 1 0 1), I 62, I 10, .s 1, I 1, .r .ns, I 62, I 57, .s 1, I 0, .r (.so 7017 1 0 1), I 66, I 10, .s 1, I 5, .r .ns, I 73, I 1, .s 1, I 0, .r .ns, I 78, I 63, .s 1, I 0, .r (.so 7030 1 0 2), I 86, I 64, .s 1, I 0, .r (.so 7035 1 0 1), I 88, I 27, .s 1, I 0, .r (.so 7044 1 0 3), I 88, I 17, .s 1599580238448, I 0, .r .ns, I 88, I 2, .s 1, I 0, .r .ns, I 93, I 2, .s 1, I 0, .r (.so 7055 1 0 1), I 94, I 10, .s 1, I 2, .r .ns, I 94, I 57, .s 1, I 0, .r (.so 7063 1 0 1), I 98, I 10, .s 1, I 7, .r .ns, I 105, I 57, .s 1, I 0, .r (.so 7071 1 0 1), I 112, I 10, .s 1, I 9, .r .ns, I 119, I 61, .s 1, I 0, .r (.so 7085 1 0 3), I 124, I 63, .s 1, I 0, .r (.so 7090 1 0 1), I 128, I 64, .s 1, I 0, .r (.so 7095 1 0 1), I 130, I 27, .s 1, I 0, .r (.so 7104 1 0 3), I 130, I 17, .s 1599580238448, I 0, .r .ns, I 130, I 2, .s 1, I 0, .r .ns, I 135, I 2, .s 1, I 0, .r (.so 7115 1 0 1), I 136, I 27, .s 1, I 0, .r (.so 7124 1 0 3), I 136, I 17, .s 358, I 0, .r .ns, I 136, I 2, .s 1, I 0, .r .ns, I 137, I 2, .s 1, I 0, .r .ns, I 138, I 62, .s 357, I 0, .r (.so 7138 1 0 1), I 144, I 63, .s 1, I 0, .r (.so 7143 1 0 1), I 154, I 64, .s 1, I 0, .r (.so 7148 1 0 1), I 156, I 27, .s 1, I 0, .r (.so 7157 1 0 3), I 156, I 17, .s 1599580238448, I 0, .r .ns, I 156, I 2, .s 1, I 0, .r .ns, I 161, I 2, .s 1, I 0, .r (.so 7170 1 0 2), I 162, I 11, .s 355, I 0, .r .ns, I 162, I 17, .s 357, I 0, .r .ns, I 167, I 1, .s 1, I 0, .r .ns, I 172]))]
theorem g11 : callF E0 300 false 10 s11.a (ofL s11.n0 s11.l0) s11.fin = true := by decide +kernel
theorem m11 : callF (EG (unFin (I 1) (I 1)) 10 [s11]) 300 false 3 un2 (h0N 0) isT = true := by decide +kernel
end
end Go.Proofs.YtbccefdijpmkbaaGreatDoor
