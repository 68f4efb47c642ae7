import Derived.Test.YtanjnahmbanmaaaGreatDoorPM
import Derived.Test.YtanjnahmbanmaaaGreatDoorPN
import Derived.Test.YtanjnahmbanmaaaGreatDoorPO
/- Parts of a proof. -/
set_option linter.unusedSimpArgs false
set_option linter.unusedVariables false
set_option linter.unusedSectionVars false
open Go.Proofs.Tryz
namespace Go.az
open Go.Proofs
set_option maxRecDepth 100000
namespace jc
theorem o:au prog 37 [X] (.aA [.cE false [.int .i64 9,.int .i64 10,.int .i64 11,.int .i64 12,.int .i64 13,.int .i64 14,.int .i64 15,.int .i64 16,.int .i64 17,.int .i64 18,.int .i64 19,.int .i64 20,.int .i64 21,.int .i64 22,.int .i64 23],.int .i64 0]):=Hk.cC k4 C8 (by kernel_rfl)
theorem p:au prog 42 [X,.str [99]] (.aA [.cE false [.int .i64 16],.int .i64 0]):=Hk.cC k4 C8 (by kernel_rfl)
def k5:List (FuncId×List PV×PV):=[(37,[X],.aA [.cE false [.int .i64 9,.int .i64 10,.int .i64 11,.int .i64 12,.int .i64 13,.int .i64 14,.int .i64 15,.int .i64 16,.int .i64 17,.int .i64 18,.int .i64 19,.int .i64 20,.int .i64 21,.int .i64 22,.int .i64 23],.int .i64 0]),(42,[X,.str [99]],.aA [.cE false [.int .i64 16],.int .i64 0]),(160,[Y,.st 160 [.str [97],.int .i64 0,.str [48],.str [49,47,50,48]]],WR),(160,[Y,.st 160 [.str [99],.int .i64 1,.str [57,47,50,48],.str [49,49,47,50,48]]],WR)]++k4
theorem aEL:Hk.kq k5:=Hk.tX (l:=[(37,[X],.aA [.cE false [.int .i64 9,.int .i64 10,.int .i64 11,.int .i64 12,.int .i64 13,.int .i64 14,.int .i64 15,.int .i64 16,.int .i64 17,.int .i64 18,.int .i64 19,.int .i64 20,.int .i64 21,.int .i64 22,.int .i64 23],.int .i64 0]),(42,[X,.str [99]],.aA [.cE false [.int .i64 16],.int .i64 0]),(160,[Y,.st 160 [.str [97],.int .i64 0,.str [48],.str [49,47,50,48]]],WR),(160,[Y,.st 160 [.str [99],.int .i64 1,.str [57,47,50,48],.str [49,49,47,50,48]]],WR)]) ⟨o,p,w0,w1,trivial⟩ C8
end jc
theorem VG:au prog 10 [] (.bool true):=Hk.cC jc.k5 jc.aEL (by kernel_rfl)
namespace jc
end jc
end Go.az
