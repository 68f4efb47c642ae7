import Derived.Test.YtanjnahmbanmaaaGreatDoorPP
import Derived.Test.YtanjnahmbanmaaaGreatDoorPQ
import Derived.Test.YtanjnahmbanmaaaGreatDoorPR
/- Parts of a proof. -/
set_option linter.unusedSimpArgs false
set_option linter.unusedVariables false
set_option linter.unusedSectionVars false
open Go.Proofs.Tryz
namespace Go.ak
open Go.Proofs
set_option maxRecDepth 100000
namespace jh
theorem o:au prog 37 [X] (.aC [.cN false [.int .i64 9,.int .i64 10,.int .i64 11,.int .i64 12,.int .i64 13,.int .i64 14,.int .i64 15,.int .i64 16,.int .i64 17,.int .i64 18,.int .i64 19,.int .i64 20,.int .i64 21,.int .i64 22,.int .i64 23],.int .i64 0]):=Hk.cM k4 DM (by kernel_rfl)
theorem p:au prog 42 [X,.str [99]] (.aC [.cN false [.int .i64 16],.int .i64 0]):=Hk.cM k4 DM (by kernel_rfl)
def k5:List (FuncId×List PV×PV):=[(37,[X],.aC [.cN false [.int .i64 9,.int .i64 10,.int .i64 11,.int .i64 12,.int .i64 13,.int .i64 14,.int .i64 15,.int .i64 16,.int .i64 17,.int .i64 18,.int .i64 19,.int .i64 20,.int .i64 21,.int .i64 22,.int .i64 23],.int .i64 0]),(42,[X,.str [99]],.aC [.cN false [.int .i64 16],.int .i64 0]),(160,[Y,.st 160 [.str [97],.int .i64 0,.str [48],.str [49,47,50,48]]],WR),(160,[Y,.st 160 [.str [99],.int .i64 1,.str [57,47,50,48],.str [49,49,47,50,48]]],WR)]++k4
theorem aGT:Hk.kF k5:=Hk.uH (l:=[(37,[X],.aC [.cN false [.int .i64 9,.int .i64 10,.int .i64 11,.int .i64 12,.int .i64 13,.int .i64 14,.int .i64 15,.int .i64 16,.int .i64 17,.int .i64 18,.int .i64 19,.int .i64 20,.int .i64 21,.int .i64 22,.int .i64 23],.int .i64 0]),(42,[X,.str [99]],.aC [.cN false [.int .i64 16],.int .i64 0]),(160,[Y,.st 160 [.str [97],.int .i64 0,.str [48],.str [49,47,50,48]]],WR),(160,[Y,.st 160 [.str [99],.int .i64 1,.str [57,47,50,48],.str [49,49,47,50,48]]],WR)]) ⟨o,p,w0,w1,trivial⟩ DM
end jh
theorem Xn:au prog 10 [] (.bool true):=Hk.cM jh.k5 jh.aGT (by kernel_rfl)
namespace jh
end jh
end Go.ak
