/-
  Part of a proof: RunFinally, remainders 4 and 1, evaluated; no conditions.
-/
import Derived.Test.YtbccefdijpmkbaaGreatDoorGFd
set_option linter.constructorNameAsVariable false
set_option linter.unusedVariables false
set_option linter.unusedSimpArgs false
set_option linter.unusedSectionVars false
set_option linter.unusedVariables false
set_option maxRecDepth 100000
namespace Go.Proofs.YtbccefdijpmkbaaGreatDoor
open Go Go.Ev
noncomputable section
def s41 : Seg where
  a := vl [.r (.so 35 1 0 172)]
  n0 := 36
  l0 := [(35, .c 5 .st false 172 8 (tb 2455288526436744819921892790435410374656998935229749915815889188781515049811329258567214371246836310718043138736235043060769802293071596465068278775133773669630555318358063980993073428232261345648612890211274515796749263078626193516624218055786320465999023324726074759217147482552927834476030641839960012218427184941771621639225524728027668701797793284874770972491603029118534960360672168269047872692147568665064806))]
  v := .t (vl [.a (vl [.r (.so 6860 5 0 60)]), I 0, I 0])
  n1 := 6865
  l1 := [(35, .c 5 .st false 172 8 (tb 2455288526436744819921892790435410374656998935229749915815889188781515049811329258567214371246836310718043138736235043060769802293071596465068278775133773669630555318358063980993073428232261345648612890211274515796749263078626193516624218055786320465999023324726074759217147482552927834476030641839960012218427184941771621639225524728027668701797793284874770972491603029118534960360672168269047872692147568665064806)),
 (6576, .c 3 .no false 4 1 (vl [I 2, I 3, I 4, I 5])),
 (6594, .c 3 .no false 3 1 (vl [I 6, I 9, I 37])),
 (6601, .c 3 .no false 2 1 (vl [I 7, I 8])),
 (6614, .c 3 .no false 2 1 (vl [I 10, I 13])),
 (6621, .c 3 .no false 2 1 (vl [I 11, I 12])),
 (6634, .c 3 .no false 2 1 (vl [I 14, I 18])),
 (6639, .c 3 .no false 1 1 (vl [I 15])),
 (6646, .c 3 .no false 2 1 (vl [I 16, I 17])),
 (6661, .c 3 .no false 3 1 (vl [I 19, I 27, I 28])),
 (6668, .c 3 .no false 2 1 (vl [I 20, I 26])),
 (6673, .c 3 .no false 1 1 (vl [I 21])),
 (6682, .c 3 .no false 3 1 (vl [I 22, I 23, I 24])),
 (6693, .c 3 .no false 1 1 (vl [I 25])),
 (6709, .c 3 .no false 2 1 (vl [I 29, I 35])),
 (6714, .c 3 .no false 1 1 (vl [I 30])),
 (6723, .c 3 .no false 3 1 (vl [I 31, I 32, I 33])),
 (6734, .c 3 .no false 1 1 (vl [I 34])),
 (6742, .c 3 .no false 1 1 (vl [I 36])),
 (6750, .c 3 .no false 1 1 (vl [I 38])),
 (6757, .c 3 .no false 2 1 (vl [I 1, I 39])),
 (6764, .c 3 .no false 3 1 (vl [I 40, I 50, I 59])),
 (6769, .c 3 .no false 1 1 (vl [I 41])),
 (6774, .c 3 .no false 1 1 (vl [I 42])),
 (6783, .c 3 .no false 3 1 (vl [I 43, I 44, I 45])),
 (6794, .c 3 .no false 1 1 (vl [I 46])),
 (6803, .c 3 .no false 3 1 (vl [I 47, I 48, I 49])),
 (6817, .c 3 .no false 1 1 (vl [I 51])),
 (6822, .c 3 .no false 1 1 (vl [I 52])),
 (6827, .c 3 .no false 1 1 (vl [I 53])),
 (6836, .c 3 .no false 3 1 (vl [I 54, I 55, I 56])),
 (6849, .c 3 .no false 2 1 (vl [I 57, I 58])),
 (6860, .c 47 .no false 300 5 (vl [I 3, .s 1, I 0, .r (.so 6757 1 0 2), I 0, I 41, .s 358, I 0, .r (.so 6576 1 0 4), I 0, I 2, .s 1, I 0, .r .ns, I 10, I 2, .s 1, I 0, .r .ns, I 11, I 1, .s 1, I 0, .r .ns, I 13, I 63, .s 1, I 0, .r (.so 6594 1 0 3), I 13, I 40, .s 366, I 0, .r (.so 6601 1 0 2), I 15, I 1, .s 1, I 0, .r .ns, I 21, I 10, .s 1, I 0, .r .ns, I 23, I 54, .s 1, I 0, .r (.so 6614 1 0 2), I 26, I 24, .s 316, I 0, .r (.so 6621 1 0 2), I 33, I 17, .s 366, I 0, .r .ns, I 33, I 10, .s 1, I 1, .r .ns, I 37, I 63, .s 1, I 0, .r (.so 6634 1 0 2), I 40, I 64, .s 1, I 0, .r (.so 6639 1 0 1), I 42, I 26, .s 81195, I 0, .r (.so 6646 1 0 2), I 42, I 17, .s 366, I 0, .r .ns, I 42, I 10, .s 1, I 1, .r .ns, I 47, I 61, .s 1, I 0, .r (.so 6661 1 0 3), I 50, I 63, .s 1, I 0, .r (.so 6668 1 0 2), I 54, I 64, .s 1, I 0, .r (.so 6673 1 0 1), I 56, I 27, .s 1, I 0, .r (.so 6682 1 0 3), I 56, I 17, .s 1599580238448, I 0, .r .ns, I 56, I 2, .s 1, I 0, .r .ns, I 61, I 2, .s 1, I 0, .r (.so 6693 1 0 1), I 62, I 10, .s 1, I 1, .r .ns, I 62, I 59, .s 1, I 0, .r .ns, I 66, I 1, .s 1, I 0, .r .ns, I 78, I 63, .s 1, I 0, .r (.so 6709 1 0 2), I 86, I 64, .s 1, I 0, .r (.so 6714 1 0 1), I 88, I 27, .s 1, I 0, .r (.so 6723 1 0 3), I 88, I 17, .s 1599580238448, I 0, .r .ns, I 88, I 2, .s 1, I 0, .r .ns, I 93, I 2, .s 1, I 0, .r (.so 6734 1 0 1), I 94, I 10, .s 1, I 2, .r .ns, I 94, I 57, .s 1, I 0, .r (.so 6742 1 0 1), I 98, I 10, .s 1, I 7, .r .ns, I 105, I 57, .s 1, I 0, .r (.so 6750 1 0 1), I 112, I 10, .s 1, I 9, .r .ns, I 119, I 61, .s 1, I 0, .r (.so 6764 1 0 3), I 124, I 63, .s 1, I 0, .r (.so 6769 1 0 1), I 128, I 64, .s 1, I 0, .r (.so 6774 1 0 1), I 130, I 27, .s 1, I 0, .r (.so 6783 1 0 3), I 130, I 17, .s 1599580238448, I 0, .r .ns, I 130, I 2, .s 1, I 0, .r .ns, I 135, I 2, .s 1, I 0, .r (.so 6794 1 0 1), I 136, I 27, .s 1, I 0, .r (.so 6803 1 0 3), I 136, I 17, .s 358, I 0, .r .ns, I 136, I 2, .s 1, I 0, .r .ns, I 137, I 2, .s 1, I 0, .r .ns, I 138, I 62, .s 357, I 0, .r (.so 6817 1 0 1), I 144, I 63, .s 1, I 0, .r (.so 6822 1 0 1), I 154, I 64, .s 1, I 0, .r (.so 6827 1 0 1), I 156, I 27, .s 1, I 0, .r (.so 6836 1 0 3), I 156, I 17, .s 1599580238448, I 0, .r .ns, I 156, I 2, .s 1, I 0, .r .ns, I 161, I 2, .s 1, I 0, .r (.so 6849 1 0 2), I 162, I 11, .s 355, I 0, .r .ns, I 162, I 17, .s 357, I 0, .r .ns, I 167, I 1, .s 1, I 0, .r .ns, I 172]))]
theorem g41 : callF E0 300 false 10 s41.a (ofL s41.n0 s41.l0) s41.fin = true := by decide +kernel
theorem m41 : callF (EG (unFin (I 4) (I 1)) 10 [s41]) 300 false 3 un2 (h0N 0) isT = true := by decide +kernel
end
end Go.Proofs.YtbccefdijpmkbaaGreatDoor
