import Derived.Test.YthckccalfpnmaaaGreatDoorPC
/- Parts of a proof. -/
set_option linter.unusedSimpArgs false
set_option linter.unusedVariables false
set_option linter.unusedSectionVars false
namespace Go.Abs
open Go.Proofs
set_option maxRecDepth 100000
namespace Awk
def v1:PV:=.st 147 [.str [118,49],.int .i64 1,.nsl,.st 23 [.str [99,117,112],.lst false [.st 54 [.str [97],.lst false [.int .i64 1]],.st 54 [.str [98],.lst false [.int .i64 2]],.st 54 [.str [99],.lst false [.int .i64 3]]]]]
def v2:PV:=.st 147 [.str [118,50],.int .i64 2,.lst true [.str [118,49]],.st 23 [.str [99,117,112],.lst false [.st 54 [.str [97],.lst false [.int .i64 1]],.st 54 [.str [98],.lst false [.int .i64 5]]]]]
def v3:PV:=.st 147 [.str [118,51],.int .i64 2,.lst true [.str [118,49]],.st 23 [.str [99,117,112],.lst false [.st 54 [.str [97],.lst false [.int .i64 4]],.st 54 [.str [98],.lst false [.int .i64 6]],.st 54 [.str [99],.lst false [.int .i64 3]],.st 54 [.str [100],.lst false [.int .i64 7]]]]]
def bk:PV:=.st 75 [.lst true [v1,v2,v3]]
def bk2:PV:=.st 75 [.lst true [v2,v3]]
def tx:PV → PV | .st _ [_,_,_,t]=>t | _=>.nif
def a1:List PV:=[tx v1,tx v2,tx v3]
def r1:PV:=.tup [.st 23 [.str [99,117,112],.lst false [.st 54 [.str [97],.lst false [.int .i64 4]],.st 54 [.str [98],.lst false [.int .i64 5]],.st 54 [.str [100],.lst false [.int .i64 7]]]],.lst false [.str [98]],.int .i64 0]
theorem g1:GoodC Tryz.prog 25 a1 r1:=by_run (by kernel_rfl)
def a2:List PV:=[bk]
def r2:PV:=.tup [.lst false [.str [118,50],.str [118,51]],.int .i64 0]
theorem g2:GoodC Tryz.prog 67 a2 r2:=by_run (by kernel_rfl)
def a3:List PV:=[bk,.str [118,50],.str [118,51]]
def r3:PV:=.tup [.str [118,49],.int .i64 0]
theorem g3:GoodC Tryz.prog 45 a3 r3:=by_run (by kernel_rfl)
def a4:List PV:=[bk,.str [118,50],.str [118,51],.str [118,52]]
def r4:PV:=.tup [.st 75 [.lst false [.st 147 [.str [118,49],.int .i64 1,.nsl,.st 23 [.str [99,117,112],.lst false [.st 54 [.str [97],.lst false [.int .i64 1]],.st 54 [.str [98],.lst false [.int .i64 2]],.st 54 [.str [99],.lst false [.int .i64 3]]]]],.st 147 [.str [118,50],.int .i64 2,.lst false [.str [118,49]],.st 23 [.str [99,117,112],.lst false [.st 54 [.str [97],.lst false [.int .i64 1]],.st 54 [.str [98],.lst false [.int .i64 5]]]]],.st 147 [.str [118,51],.int .i64 2,.lst false [.str [118,49]],.st 23 [.str [99,117,112],.lst false [.st 54 [.str [97],.lst false [.int .i64 4]],.st 54 [.str [98],.lst false [.int .i64 6]],.st 54 [.str [99],.lst false [.int .i64 3]],.st 54 [.str [100],.lst false [.int .i64 7]]]]],.st 147 [.str [118,52],.int .i64 3,.lst true [.str [118,50],.str [118,51]],.st 23 [.str [99,117,112],.lst false [.st 54 [.str [97],.lst false [.int .i64 4]],.st 54 [.str [98],.lst false [.int .i64 5]],.st 54 [.str [100],.lst false [.int .i64 7]]]]]]],.lst false [.str [98]],.int .i64 0]
theorem g4:GoodC Tryz.prog 46 a4 r4:=by_run (by kernel_rfl)
def a5:List PV:=[bk2]
def r5:PV:=.tup [.lst false [.str [118,49]],.int .i64 0]
theorem g5:GoodC Tryz.prog 66 a5 r5:=by_run (by kernel_rfl)
def a6:List PV:=[bk2]
def r6:PV:=.tup [.nsl,.int .i64 0]
theorem g6:GoodC Tryz.prog 67 a6 r6:=by_run (by kernel_rfl)
def a7:List PV:=[.str [98,111,111,107,32,99,117,112,10,97,110,110,32,48,51,10]]
def r7:PV:=.tup [.st 23 [.str [],.nsl],.int .i64 2,.int .i64 25]
theorem g7:GoodC Tryz.prog 21 a7 r7:=by_run (by kernel_rfl)
def facts:List (FuncId × List PV × PV):=[(25,a1,r1),(67,a2,r2),(45,a3,r3),(46,a4,r4),(66,a5,r5),(67,a6,r6),(21,a7,r7)]
theorem facts_ok:AllG Tryz.prog facts:=⟨g1,g2,g3,g4,g5,g6,g7,trivial⟩
end Awk
end Go.Abs
