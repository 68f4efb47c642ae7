import Derived.Test.YthmfmhbicipdmaaGreatDoorPO
import Derived.Test.YthmfmhbicipdmaaGreatDoorPP
import Derived.Test.YthmfmhbicipdmaaGreatDoorPQ
/- Parts of a proof. -/
set_option linter.unusedSimpArgs false
set_option linter.unusedVariables false
set_option linter.unusedSectionVars false
open Go.Proofs.Tryz
namespace Go.ak
open Go.Proofs
set_option maxRecDepth 100000
namespace jP
theorem o:au prog 55 [X] (.aC [.cT false [.int .i64 9,.int .i64 10,.int .i64 11,.int .i64 12,.int .i64 13,.int .i64 14,.int .i64 15,.int .i64 16,.int .i64 17,.int .i64 18,.int .i64 19,.int .i64 20,.int .i64 21,.int .i64 22,.int .i64 23],.int .i64 0]):=Hk.cR k4 Fh (by kernel_rfl)
theorem p:au prog 56 [X,.str [99]] (.aC [.cT false [.int .i64 16],.int .i64 0]):=Hk.cR k4 Fh (by kernel_rfl)
def k5:List (FuncId×List PV×PV):=[(55,[X],.aC [.cT false [.int .i64 9,.int .i64 10,.int .i64 11,.int .i64 12,.int .i64 13,.int .i64 14,.int .i64 15,.int .i64 16,.int .i64 17,.int .i64 18,.int .i64 19,.int .i64 20,.int .i64 21,.int .i64 22,.int .i64 23],.int .i64 0]),(56,[X,.str [99]],.aC [.cT false [.int .i64 16],.int .i64 0]),(79,[Y,.st 90 [.str [97],.int .i64 0,.str [48],.str [49,47,50,48]]],WR),(79,[Y,.st 90 [.str [99],.int .i64 1,.str [57,47,50,48],.str [49,49,47,50,48]]],WR)]++k4
theorem aJE:Hk.lM k5:=Hk.wD (l:=[(55,[X],.aC [.cT false [.int .i64 9,.int .i64 10,.int .i64 11,.int .i64 12,.int .i64 13,.int .i64 14,.int .i64 15,.int .i64 16,.int .i64 17,.int .i64 18,.int .i64 19,.int .i64 20,.int .i64 21,.int .i64 22,.int .i64 23],.int .i64 0]),(56,[X,.str [99]],.aC [.cT false [.int .i64 16],.int .i64 0]),(79,[Y,.st 90 [.str [97],.int .i64 0,.str [48],.str [49,47,50,48]]],WR),(79,[Y,.st 90 [.str [99],.int .i64 1,.str [57,47,50,48],.str [49,49,47,50,48]]],WR)]) ⟨o,p,w0,w1,trivial⟩ Fh
end jP
theorem Zg:au prog 9 [] (.bool true):=Hk.cR jP.k5 jP.aJE (by kernel_rfl)
namespace jP
end jP
end Go.ak
