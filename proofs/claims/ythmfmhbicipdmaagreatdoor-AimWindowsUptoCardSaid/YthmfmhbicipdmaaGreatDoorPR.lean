import Derived.Test.YthmfmhbicipdmaaGreatDoorPO
import Derived.Test.YthmfmhbicipdmaaGreatDoorPP
import Derived.Test.YthmfmhbicipdmaaGreatDoorPQ
/- Parts of a proof. -/
set_option linter.unusedSimpArgs false
set_option linter.unusedVariables false
set_option linter.unusedSectionVars false
open Go.Proofs.Tryz
namespace Go.ah
open Go.Proofs
set_option maxRecDepth 100000
namespace jC
theorem o:ar prog 55 [X] (.aE [.cT false [.int .i64 9,.int .i64 10,.int .i64 11,.int .i64 12,.int .i64 13,.int .i64 14,.int .i64 15,.int .i64 16,.int .i64 17,.int .i64 18,.int .i64 19,.int .i64 20,.int .i64 21,.int .i64 22,.int .i64 23],.int .i64 0]):=Hk.cS k4 Fa (by kernel_rfl)
theorem p:ar prog 56 [X,.str [99]] (.aE [.cT false [.int .i64 16],.int .i64 0]):=Hk.cS k4 Fa (by kernel_rfl)
def k5:List (FuncId×List PV×PV):=[(55,[X],.aE [.cT false [.int .i64 9,.int .i64 10,.int .i64 11,.int .i64 12,.int .i64 13,.int .i64 14,.int .i64 15,.int .i64 16,.int .i64 17,.int .i64 18,.int .i64 19,.int .i64 20,.int .i64 21,.int .i64 22,.int .i64 23],.int .i64 0]),(56,[X,.str [99]],.aE [.cT false [.int .i64 16],.int .i64 0]),(79,[Y,.st 90 [.str [97],.int .i64 0,.str [48],.str [49,47,50,48]]],WR),(79,[Y,.st 90 [.str [99],.int .i64 1,.str [57,47,50,48],.str [49,49,47,50,48]]],WR)]++k4
theorem aJj:Hk.lD k5:=Hk.vI (l:=[(55,[X],.aE [.cT false [.int .i64 9,.int .i64 10,.int .i64 11,.int .i64 12,.int .i64 13,.int .i64 14,.int .i64 15,.int .i64 16,.int .i64 17,.int .i64 18,.int .i64 19,.int .i64 20,.int .i64 21,.int .i64 22,.int .i64 23],.int .i64 0]),(56,[X,.str [99]],.aE [.cT false [.int .i64 16],.int .i64 0]),(79,[Y,.st 90 [.str [97],.int .i64 0,.str [48],.str [49,47,50,48]]],WR),(79,[Y,.st 90 [.str [99],.int .i64 1,.str [57,47,50,48],.str [49,49,47,50,48]]],WR)]) ⟨o,p,w0,w1,trivial⟩ Fa
end jC
theorem OR:ar prog 9 [] (.bool true):=Hk.cS jC.k5 jC.aJj (by kernel_rfl)
namespace jC
end jC
end Go.ah
