import Derived.Test.YtanjnahmbanmaaaGreatDoorPK
import Derived.Test.YtanjnahmbanmaaaGreatDoorPL
import Derived.Test.YtanjnahmbanmaaaGreatDoorPM
/- Parts of a proof. -/
set_option linter.unusedSimpArgs false
set_option linter.unusedVariables false
set_option linter.unusedSectionVars false
namespace Go.Abs
open Go.Proofs
set_option maxRecDepth 100000
namespace Aw4
theorem o:aab Tryz.prog 37 [X] (.tup [.lst false [.int .i64 9,.int .i64 10,.int .i64 11,.int .i64 12,.int .i64 13,.int .i64 14,.int .i64 15,.int .i64 16,.int .i64 17,.int .i64 18,.int .i64 19,.int .i64 20,.int .i64 21,.int .i64 22,.int .i64 23],.int .i64 0]):=Hk.aau k4 k4_ok (by kernel_rfl)
theorem p:aab Tryz.prog 42 [X,.str [99]] (.tup [.lst false [.int .i64 16],.int .i64 0]):=Hk.aau k4 k4_ok (by kernel_rfl)
def k5:List (FuncId×List PV×PV):=[(37,[X],.tup [.lst false [.int .i64 9,.int .i64 10,.int .i64 11,.int .i64 12,.int .i64 13,.int .i64 14,.int .i64 15,.int .i64 16,.int .i64 17,.int .i64 18,.int .i64 19,.int .i64 20,.int .i64 21,.int .i64 22,.int .i64 23],.int .i64 0]),(42,[X,.str [99]],.tup [.lst false [.int .i64 16],.int .i64 0]),(160,[Y,.st 160 [.str [97],.int .i64 0,.str [48],.str [49,47,50,48]]],WR),(160,[Y,.st 160 [.str [99],.int .i64 1,.str [57,47,50,48],.str [49,49,47,50,48]]],WR)] ++ k4
theorem k5_ok:Hk.AllG k5:=Hk.afY (l:=[(37,[X],.tup [.lst false [.int .i64 9,.int .i64 10,.int .i64 11,.int .i64 12,.int .i64 13,.int .i64 14,.int .i64 15,.int .i64 16,.int .i64 17,.int .i64 18,.int .i64 19,.int .i64 20,.int .i64 21,.int .i64 22,.int .i64 23],.int .i64 0]),(42,[X,.str [99]],.tup [.lst false [.int .i64 16],.int .i64 0]),(160,[Y,.st 160 [.str [97],.int .i64 0,.str [48],.str [49,47,50,48]]],WR),(160,[Y,.st 160 [.str [99],.int .i64 1,.str [57,47,50,48],.str [49,49,47,50,48]]],WR)]) ⟨o,p,w0,w1,trivial⟩ k4_ok
end Aw4
theorem awC:aab Tryz.prog 10 [] (.bool true):=Hk.aau Aw4.k5 Aw4.k5_ok (by kernel_rfl)
namespace Aw4
end Aw4
end Go.Abs
