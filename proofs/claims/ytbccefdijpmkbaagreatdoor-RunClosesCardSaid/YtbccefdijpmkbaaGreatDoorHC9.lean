/-
  Part of a proof: RunCloses at 9, evaluated; no conditions.
-/
import Derived.Test.YtbccefdijpmkbaaGreatDoorHFd
set_option linter.constructorNameAsVariable false
set_option linter.unusedVariables false
set_option linter.unusedSimpArgs false
set_option linter.unusedSectionVars false
set_option linter.unusedVariables false
set_option maxRecDepth 100000
namespace Go.Proofs.YtbccefdijpmkbaaGreatDoor
open Go Go.Ev
noncomputable section
def sA9 : Seg where
  a := vl [.r (.so 34 1 0 199)]
  n0 := 35
  l0 := [(0, .gi),
 (34, .c 5 .st false 199 8 (tb 213819167948876261883016181248471293367150634010715688749907453263129013506819230974518446390199333400080464235958249164681594859762436656949166009986133627164687547683792135415958991963572830737587424047493884909118791924270220734944384472899267990153764740498411018023924381904148933227579449991594653834155220027936135424695981170239286610053908199237728734416111614110266150470442044728050325249094125887523817020492118789787273841237587378013025776855262121691023551497138019))]
  v := .t (vl [.a (vl [.r (.so 8709 5 0 71)]), I 0, I 0])
  n1 := 8714
  l1 := [(0, .gi),
 (34, .c 5 .st false 199 8 (tb 213819167948876261883016181248471293367150634010715688749907453263129013506819230974518446390199333400080464235958249164681594859762436656949166009986133627164687547683792135415958991963572830737587424047493884909118791924270220734944384472899267990153764740498411018023924381904148933227579449991594653834155220027936135424695981170239286610053908199237728734416111614110266150470442044728050325249094125887523817020492118789787273841237587378013025776855262121691023551497138019)),
 (8366, .c 3 .no false 2 1 (vl [I 2, I 3])),
 (8385, .c 3 .no false 4 1 (vl [I 5, I 8, I 11, I 14])),
 (8392, .c 3 .no false 2 1 (vl [I 6, I 7])),
 (8405, .c 3 .no false 2 1 (vl [I 9, I 10])),
 (8418, .c 3 .no false 2 1 (vl [I 12, I 13])),
 (8429, .c 3 .no false 1 1 (vl [I 15])),
 (8434, .c 3 .no false 1 1 (vl [I 16])),
 (8443, .c 3 .no false 3 1 (vl [I 17, I 19, I 20])),
 (8448, .c 3 .no false 1 1 (vl [I 18])),
 (8459, .c 3 .no false 1 1 (vl [I 21])),
 (8468, .c 3 .no false 3 1 (vl [I 22, I 23, I 24])),
 (8486, .c 3 .no false 2 1 (vl [I 26, I 27])),
 (8501, .c 3 .no false 2 1 (vl [I 29, I 30])),
 (8509, .c 3 .no false 1 1 (vl [I 31])),
 (8514, .c 3 .no false 1 1 (vl [I 32])),
 (8521, .c 3 .no false 2 1 (vl [I 33, I 34])),
 (8533, .c 3 .no false 3 1 (vl [I 35, I 36, I 37])),
 (8549, .c 3 .no false 1 1 (vl [I 39])),
 (8558, .c 3 .no false 3 1 (vl [I 40, I 41, I 42])),
 (8569, .c 3 .no false 1 1 (vl [I 43])),
 (8581, .c 3 .no false 2 1 (vl [I 45, I 46])),
 (8596, .c 3 .no false 2 1 (vl [I 48, I 49])),
 (8604, .c 3 .no false 1 1 (vl [I 50])),
 (8609, .c 3 .no false 1 1 (vl [I 51])),
 (8618, .c 3 .no false 3 1 (vl [I 52, I 54, I 55])),
 (8623, .c 3 .no false 1 1 (vl [I 53])),
 (8634, .c 3 .no false 1 1 (vl [I 56])),
 (8641, .c 3 .no false 8 1 (vl [I 1, I 4, I 25, I 28, I 38, I 44, I 47, I 57])),
 (8644, .c 3 .no false 1 1 (vl [I 58])),
 (8653, .c 3 .no false 3 1 (vl [I 59, I 60, I 61])),
 (8666, .c 3 .no false 2 1 (vl [I 62, I 69])),
 (8673, .c 3 .no false 2 1 (vl [I 63, I 66])),
 (8680, .c 3 .no false 2 1 (vl [I 64, I 65])),
 (8693, .c 3 .no false 2 1 (vl [I 67, I 68])),
 (8704, .c 3 .no false 1 1 (vl [I 70])),
 (8709, .c 47 .no false 355 5 (vl [I 3, .s 1, I 0, .r (.so 8641 1 0 8), I 0, I 40, .s 364, I 1, .r (.so 8366 1 0 2), I 0, I 1, .s 1, I 0, .r .ns, I 8, I 19, .s 1, I 0, .r .ns, I 10, I 55, .s 1, I 0, .r (.so 8385 1 0 4), I 14, I 40, .s 361, I 0, .r (.so 8392 1 0 2), I 19, I 1, .s 1, I 0, .r .ns, I 25, I 10, .s 1, I 0, .r .ns, I 27, I 24, .s 316, I 0, .r (.so 8405 1 0 2), I 30, I 17, .s 361, I 0, .r .ns, I 30, I 10, .s 1, I 9, .r .ns, I 34, I 26, .s 81195, I 0, .r (.so 8418 1 0 2), I 37, I 17, .s 361, I 0, .r .ns, I 37, I 10, .s 1, I 1, .r .ns, I 42, I 63, .s 1, I 0, .r (.so 8429 1 0 1), I 45, I 64, .s 1, I 0, .r (.so 8434 1 0 1), I 47, I 27, .s 1, I 0, .r (.so 8443 1 0 3), I 47, I 29, .s 6047364464, I 0, .r (.so 8448 1 0 1), I 47, I 17, .s 364, I 0, .r .ns, I 47, I 2, .s 1, I 0, .r .ns, I 53, I 2, .s 1, I 0, .r (.so 8459 1 0 1), I 54, I 22, .s 1, I 0, .r (.so 8468 1 0 3), I 54, I 2, .s 1, I 0, .r .ns, I 54, I 2, .s 1, I 0, .r .ns, I 55, I 17, .s 361, I 0, .r .ns, I 60, I 40, .s 371, I 0, .r (.so 8486 1 0 2), I 66, I 1, .s 1, I 0, .r .ns, I 72, I 10, .s 1, I 0, .r .ns, I 74, I 56, .s 358, I 1, .r (.so 8501 1 0 2), I 77, I 17, .s 364, I 0, .r .ns, I 93, I 63, .s 1, I 0, .r (.so 8509 1 0 1), I 96, I 64, .s 1, I 0, .r (.so 8514 1 0 1), I 98, I 26, .s 81195, I 0, .r (.so 8521 1 0 2), I 98, I 17, .s 371, I 0, .r .ns, I 98, I 27, .s 1, I 0, .r (.so 8533 1 0 3), I 103, I 17, .s 358, I 0, .r .ns, I 103, I 2, .s 1, I 0, .r .ns, I 104, I 2, .s 1, I 0, .r .ns, I 105, I 64, .s 1, I 0, .r (.so 8549 1 0 1), I 110, I 27, .s 1, I 0, .r (.so 8558 1 0 3), I 110, I 17, .s 1599580238448, I 0, .r .ns, I 110, I 2, .s 1, I 0, .r .ns, I 115, I 2, .s 1, I 0, .r (.so 8569 1 0 1), I 116, I 17, .s 371, I 0, .r .ns, I 116, I 40, .s 365, I 1, .r (.so 8581 1 0 2), I 120, I 1, .s 1, I 0, .r .ns, I 128, I 19, .s 1, I 0, .r .ns, I 130, I 56, .s 358, I 1, .r (.so 8596 1 0 2), I 134, I 17, .s 364, I 0, .r .ns, I 150, I 63, .s 1, I 0, .r (.so 8604 1 0 1), I 153, I 64, .s 1, I 0, .r (.so 8609 1 0 1), I 155, I 27, .s 1, I 0, .r (.so 8618 1 0 3), I 155, I 29, .s 6047364464, I 0, .r (.so 8623 1 0 1), I 155, I 17, .s 365, I 0, .r .ns, I 155, I 2, .s 1, I 0, .r .ns, I 161, I 2, .s 1, I 0, .r (.so 8634 1 0 1), I 162, I 17, .s 358, I 0, .r .ns, I 162, I 64, .s 1, I 0, .r (.so 8644 1 0 1), I 168, I 27, .s 1, I 0, .r (.so 8653 1 0 3), I 168, I 17, .s 1599580238448, I 0, .r .ns, I 168, I 2, .s 1, I 0, .r .ns, I 173, I 2, .s 1, I 0, .r (.so 8666 1 0 2), I 174, I 24, .s 20790589, I 0, .r (.so 8673 1 0 2), I 174, I 30, .s 1, I 0, .r (.so 8680 1 0 2), I 174, I 17, .s 365, I 0, .r .ns, I 174, I 10, .s 1, I 0, .r .ns, I 176, I 30, .s 1, I 0, .r (.so 8693 1 0 2), I 183, I 17, .s 364, I 0, .r .ns, I 183, I 10, .s 1, I 0, .r .ns, I 185, I 29, .s 396324137493868, I 0, .r (.so 8704 1 0 1), I 189, I 17, .s 364, I 0, .r .ns, I 189]))]
def sB9 : Seg where
  a := vl [.a (vl [.r (.so 8709 5 0 71)])]
  n0 := 12413
  l0 := [(0, .gi),
 (8366, .c 3 .no false 2 1 (vl [I 2, I 3])),
 (8385, .c 3 .no false 4 1 (vl [I 5, I 8, I 11, I 14])),
 (8392, .c 3 .no false 2 1 (vl [I 6, I 7])),
 (8405, .c 3 .no false 2 1 (vl [I 9, I 10])),
 (8418, .c 3 .no false 2 1 (vl [I 12, I 13])),
 (8429, .c 3 .no false 1 1 (vl [I 15])),
 (8434, .c 3 .no false 1 1 (vl [I 16])),
 (8443, .c 3 .no false 3 1 (vl [I 17, I 19, I 20])),
 (8448, .c 3 .no false 1 1 (vl [I 18])),
 (8459, .c 3 .no false 1 1 (vl [I 21])),
 (8468, .c 3 .no false 3 1 (vl [I 22, I 23, I 24])),
 (8486, .c 3 .no false 2 1 (vl [I 26, I 27])),
 (8501, .c 3 .no false 2 1 (vl [I 29, I 30])),
 (8509, .c 3 .no false 1 1 (vl [I 31])),
 (8514, .c 3 .no false 1 1 (vl [I 32])),
 (8521, .c 3 .no false 2 1 (vl [I 33, I 34])),
 (8533, .c 3 .no false 3 1 (vl [I 35, I 36, I 37])),
 (8549, .c 3 .no false 1 1 (vl [I 39])),
 (8558, .c 3 .no false 3 1 (vl [I 40, I 41, I 42])),
 (8569, .c 3 .no false 1 1 (vl [I 43])),
 (8581, .c 3 .no false 2 1 (vl [I 45, I 46])),
 (8596, .c 3 .no false 2 1 (vl [I 48, I 49])),
 (8604, .c 3 .no false 1 1 (vl [I 50])),
 (8609, .c 3 .no false 1 1 (vl [I 51])),
 (8618, .c 3 .no false 3 1 (vl [I 52, I 54, I 55])),
 (8623, .c 3 .no false 1 1 (vl [I 53])),
 (8634, .c 3 .no false 1 1 (vl [I 56])),
 (8641, .c 3 .no false 8 1 (vl [I 1, I 4, I 25, I 28, I 38, I 44, I 47, I 57])),
 (8644, .c 3 .no false 1 1 (vl [I 58])),
 (8653, .c 3 .no false 3 1 (vl [I 59, I 60, I 61])),
 (8666, .c 3 .no false 2 1 (vl [I 62, I 69])),
 (8673, .c 3 .no false 2 1 (vl [I 63, I 66])),
 (8680, .c 3 .no false 2 1 (vl [I 64, I 65])),
 (8693, .c 3 .no false 2 1 (vl [I 67, I 68])),
 (8704, .c 3 .no false 1 1 (vl [I 70])),
 (8709, .c 47 .no false 355 5 (vl [I 3, .s 1, I 0, .r (.so 8641 1 0 8), I 0, I 40, .s 364, I 1, .r (.so 8366 1 0 2), I 0, I 1, .s 1, I 0, .r .ns, I 8, I 19, .s 1, I 0, .r .ns, I 10, I 55, .s 1, I 0, .r (.so 8385 1 0 4), I 14, I 40, .s 361, I 0, .r (.so 8392 1 0 2), I 19, I 1, .s 1, I 0, .r .ns, I 25, I 10, .s 1, I 0, .r .ns, I 27, I 24, .s 316, I 0, .r (.so 8405 1 0 2), I 30, I 17, .s 361, I 0, .r .ns, I 30, I 10, .s 1, I 9, .r .ns, I 34, I 26, .s 81195, I 0, .r (.so 8418 1 0 2), I 37, I 17, .s 361, I 0, .r .ns, I 37, I 10, .s 1, I 1, .r .ns, I 42, I 63, .s 1, I 0, .r (.so 8429 1 0 1), I 45, I 64, .s 1, I 0, .r (.so 8434 1 0 1), I 47, I 27, .s 1, I 0, .r (.so 8443 1 0 3), I 47, I 29, .s 6047364464, I 0, .r (.so 8448 1 0 1), I 47, I 17, .s 364, I 0, .r .ns, I 47, I 2, .s 1, I 0, .r .ns, I 53, I 2, .s 1, I 0, .r (.so 8459 1 0 1), I 54, I 22, .s 1, I 0, .r (.so 8468 1 0 3), I 54, I 2, .s 1, I 0, .r .ns, I 54, I 2, .s 1, I 0, .r .ns, I 55, I 17, .s 361, I 0, .r .ns, I 60, I 40, .s 371, I 0, .r (.so 8486 1 0 2), I 66, I 1, .s 1, I 0, .r .ns, I 72, I 10, .s 1, I 0, .r .ns, I 74, I 56, .s 358, I 1, .r (.so 8501 1 0 2), I 77, I 17, .s 364, I 0, .r .ns, I 93, I 63, .s 1, I 0, .r (.so 8509 1 0 1), I 96, I 64, .s 1, I 0, .r (.so 8514 1 0 1), I 98, I 26, .s 81195, I 0, .r (.so 8521 1 0 2), I 98, I 17, .s 371, I 0, .r .ns, I 98, I 27, .s 1, I 0, .r (.so 8533 1 0 3), I 103, I 17, .s 358, I 0, .r .ns, I 103, I 2, .s 1, I 0, .r .ns, I 104, I 2, .s 1, I 0, .r .ns, I 105, I 64, .s 1, I 0, .r (.so 8549 1 0 1), I 110, I 27, .s 1, I 0, .r (.so 8558 1 0 3), I 110, I 17, .s 1599580238448, I 0, .r .ns, I 110, I 2, .s 1, I 0, .r .ns, I 115, I 2, .s 1, I 0, .r (.so 8569 1 0 1), I 116, I 17, .s 371, I 0, .r .ns, I 116, I 40, .s 365, I 1, .r (.so 8581 1 0 2), I 120, I 1, .s 1, I 0, .r .ns, I 128, I 19, .s 1, I 0, .r .ns, I 130, I 56, .s 358, I 1, .r (.so 8596 1 0 2), I 134, I 17, .s 364, I 0, .r .ns, I 150, I 63, .s 1, I 0, .r (.so 8604 1 0 1), I 153, I 64, .s 1, I 0, .r (.so 8609 1 0 1), I 155, I 27, .s 1, I 0, .r (.so 8618 1 0 3), I 155, I 29, .s 6047364464, I 0, .r (.so 8623 1 0 1), I 155, I 17, .s 365, I 0, .r .ns, I 155, I 2, .s 1, I 0, .r .ns, I 161, I 2, .s 1, I 0, .r (.so 8634 1 0 1), I 162, I 17, .s 358, I 0, .r .ns, I 162, I 64, .s 1, I 0, .r (.so 8644 1 0 1), I 168, I 27, .s 1, I 0, .r (.so 8653 1 0 3), I 168, I 17, .s 1599580238448, I 0, .r .ns, I 168, I 2, .s 1, I 0, .r .ns, I 173, I 2, .s 1, I 0, .r (.so 8666 1 0 2), I 174, I 24, .s 20790589, I 0, .r (.so 8673 1 0 2), I 174, I 30, .s 1, I 0, .r (.so 8680 1 0 2), I 174, I 17, .s 365, I 0, .r .ns, I 174, I 10, .s 1, I 0, .r .ns, I 176, I 30, .s 1, I 0, .r (.so 8693 1 0 2), I 183, I 17, .s 364, I 0, .r .ns, I 183, I 10, .s 1, I 0, .r .ns, I 185, I 29, .s 396324137493868, I 0, .r (.so 8704 1 0 1), I 189, I 17, .s 364, I 0, .r .ns, I 189]))]
  v := .t (vl [.r (.so 16442 3 0 16), .i .i64 (Int.negSucc 0), I 0])
  n1 := 16443
  l1 := [(0, .gi),
 (8366, .c 3 .no false 2 1 (vl [I 2, I 3])),
 (8385, .c 3 .no false 4 1 (vl [I 5, I 8, I 11, I 14])),
 (8392, .c 3 .no false 2 1 (vl [I 6, I 7])),
 (8405, .c 3 .no false 2 1 (vl [I 9, I 10])),
 (8418, .c 3 .no false 2 1 (vl [I 12, I 13])),
 (8429, .c 3 .no false 1 1 (vl [I 15])),
 (8434, .c 3 .no false 1 1 (vl [I 16])),
 (8443, .c 3 .no false 3 1 (vl [I 17, I 19, I 20])),
 (8448, .c 3 .no false 1 1 (vl [I 18])),
 (8459, .c 3 .no false 1 1 (vl [I 21])),
 (8468, .c 3 .no false 3 1 (vl [I 22, I 23, I 24])),
 (8486, .c 3 .no false 2 1 (vl [I 26, I 27])),
 (8501, .c 3 .no false 2 1 (vl [I 29, I 30])),
 (8509, .c 3 .no false 1 1 (vl [I 31])),
 (8514, .c 3 .no false 1 1 (vl [I 32])),
 (8521, .c 3 .no false 2 1 (vl [I 33, I 34])),
 (8533, .c 3 .no false 3 1 (vl [I 35, I 36, I 37])),
 (8549, .c 3 .no false 1 1 (vl [I 39])),
 (8558, .c 3 .no false 3 1 (vl [I 40, I 41, I 42])),
 (8569, .c 3 .no false 1 1 (vl [I 43])),
 (8581, .c 3 .no false 2 1 (vl [I 45, I 46])),
 (8596, .c 3 .no false 2 1 (vl [I 48, I 49])),
 (8604, .c 3 .no false 1 1 (vl [I 50])),
 (8609, .c 3 .no false 1 1 (vl [I 51])),
 (8618, .c 3 .no false 3 1 (vl [I 52, I 54, I 55])),
 (8623, .c 3 .no false 1 1 (vl [I 53])),
 (8634, .c 3 .no false 1 1 (vl [I 56])),
 (8641, .c 3 .no false 8 1 (vl [I 1, I 4, I 25, I 28, I 38, I 44, I 47, I 57])),
 (8644, .c 3 .no false 1 1 (vl [I 58])),
 (8653, .c 3 .no false 3 1 (vl [I 59, I 60, I 61])),
 (8666, .c 3 .no false 2 1 (vl [I 62, I 69])),
 (8673, .c 3 .no false 2 1 (vl [I 63, I 66])),
 (8680, .c 3 .no false 2 1 (vl [I 64, I 65])),
 (8693, .c 3 .no false 2 1 (vl [I 67, I 68])),
 (8704, .c 3 .no false 1 1 (vl [I 70])),
 (8709, .c 47 .no false 355 5 (vl [I 3, .s 1, I 0, .r (.so 8641 1 0 8), I 0, I 40, .s 364, I 1, .r (.so 8366 1 0 2), I 0, I 1, .s 1, I 0, .r .ns, I 8, I 19, .s 1, I 0, .r .ns, I 10, I 55, .s 1, I 0, .r (.so 8385 1 0 4), I 14, I 40, .s 361, I 0, .r (.so 8392 1 0 2), I 19, I 1, .s 1, I 0, .r .ns, I 25, I 10, .s 1, I 0, .r .ns, I 27, I 24, .s 316, I 0, .r (.so 8405 1 0 2), I 30, I 17, .s 361, I 0, .r .ns, I 30, I 10, .s 1, I 9, .r .ns, I 34, I 26, .s 81195, I 0, .r (.so 8418 1 0 2), I 37, I 17, .s 361, I 0, .r .ns, I 37, I 10, .s 1, I 1, .r .ns, I 42, I 63, .s 1, I 0, .r (.so 8429 1 0 1), I 45, I 64, .s 1, I 0, .r (.so 8434 1 0 1), I 47, I 27, .s 1, I 0, .r (.so 8443 1 0 3), I 47, I 29, .s 6047364464, I 0, .r (.so 8448 1 0 1), I 47, I 17, .s 364, I 0, .r .ns, I 47, I 2, .s 1, I 0, .r .ns, I 53, I 2, .s 1, I 0, .r (.so 8459 1 0 1), I 54, I 22, .s 1, I 0, .r (.so 8468 1 0 3), I 54, I 2, .s 1, I 0, .r .ns, I 54, I 2, .s 1, I 0, .r .ns, I 55, I 17, .s 361, I 0, .r .ns, I 60, I 40, .s 371, I 0, .r (.so 8486 1 0 2), I 66, I 1, .s 1, I 0, .r .ns, I 72, I 10, .s 1, I 0, .r .ns, I 74, I 56, .s 358, I 1, .r (.so 8501 1 0 2), I 77, I 17, .s 364, I 0, .r .ns, I 93, I 63, .s 1, I 0, .r (.so 8509 1 0 1), I 96, I 64, .s 1, I 0, .r (.so 8514 1 0 1), I 98, I 26, .s 81195, I 0, .r (.so 8521 1 0 2), I 98, I 17, .s 371, I 0, .r .ns, I 98, I 27, .s 1, I 0, .r (.so 8533 1 0 3), I 103, I 17, .s 358, I 0, .r .ns, I 103, I 2, .s 1, I 0, .r .ns, I 104, I 2, .s 1, I 0, .r .ns, I 105, I 64, .s 1, I 0, .r (.so 8549 1 0 1), I 110, I 27, .s 1, I 0, .r (.so 8558 1 0 3), I 110, I 17, .s 1599580238448, I 0, .r .ns, I 110, I 2, .s 1, I 0, .r .ns, I 115, I 2, .s 1, I 0, .r (.so 8569 1 0 1), I 116, I 17, .s 371, I 0, .r .ns, I 116, I 40, .s 365, I 1, .r (.so 8581 1 0 2), I 120, I 1, .s 1, I 0, .r .ns, I 128, I 19, .s 1, I 0, .r .ns, I 130, I 56, .s 358, I 1, .r (.so 8596 1 0 2), I 134, I 17, .s 364, I 0, .r .ns, I 150, I 63, .s 1, I 0, .r (.so 8604 1 0 1), I 153, I 64, .s 1, I 0, .r (.so 8609 1 0 1), I 155, I 27, .s 1, I 0, .r (.so 8618 1 0 3), I 155, I 29, .s 6047364464, I 0, .r (.so 8623 1 0 1), I 155, I 17, .s 365, I 0, .r .ns, I 155, I 2, .s 1, I 0, .r .ns, I 161, I 2, .s 1, I 0, .r (.so 8634 1 0 1), I 162, I 17, .s 358, I 0, .r .ns, I 162, I 64, .s 1, I 0, .r (.so 8644 1 0 1), I 168, I 27, .s 1, I 0, .r (.so 8653 1 0 3), I 168, I 17, .s 1599580238448, I 0, .r .ns, I 168, I 2, .s 1, I 0, .r .ns, I 173, I 2, .s 1, I 0, .r (.so 8666 1 0 2), I 174, I 24, .s 20790589, I 0, .r (.so 8673 1 0 2), I 174, I 30, .s 1, I 0, .r (.so 8680 1 0 2), I 174, I 17, .s 365, I 0, .r .ns, I 174, I 10, .s 1, I 0, .r .ns, I 176, I 30, .s 1, I 0, .r (.so 8693 1 0 2), I 183, I 17, .s 364, I 0, .r .ns, I 183, I 10, .s 1, I 0, .r .ns, I 185, I 29, .s 396324137493868, I 0, .r (.so 8704 1 0 1), I 189, I 17, .s 364, I 0, .r .ns, I 189])),
 (16442, .c 86 .no false 48 3 (vl [I 9, I 5, .b false, I 12, I 5, .b false, I 18, I 1, .b false, I 24, I 5, .b true, I 29, I 1, .b false, I 33, I 25, .b false, I 35, I 28, .b false, I 40, .i .i64 (Int.negSucc 0), .b false, I 43, I 25, .b false, I 48, I 1, .b false, I 53, I 44, .b false, I 56, I 47, .b false, I 59, .i .i64 (Int.negSucc 0), .b false, I 64, I 44, .b false, I 67, I 1, .b false, I 70, I 1, .b false]))]
theorem gA9 : callF E0 300 false 10 sA9.a (ofL sA9.n0 sA9.l0) sA9.fin = true := by decide +kernel
theorem gB9 : callF E0 300 false 13 sB9.a (ofL sB9.n0 sB9.l0) sB9.fin = true := by decide +kernel
theorem m9 : callF (withSeg (withSeg E0 10 (segG [sA9])) 13 (segG [sB9])) 300 false 4 (vl [I 9]) (h0N 0) isT = true := by decide +kernel
end
end Go.Proofs.YtbccefdijpmkbaaGreatDoor
