import Derived.Test.YtanjnahmbanmaaaGreatDoorPM
/- Parts of a proof. -/
set_option linter.unusedSimpArgs false
set_option linter.unusedVariables false
set_option linter.unusedSectionVars false
open Go.Proofs.Tryz
namespace Go.ak
open Go.Proofs
set_option maxRecDepth 100000
namespace jh
def T:PV:=.st 54 [.cN true [.st 178 [.int .i64 0,.int .i64 0],.st 178 [.int .i64 2000,.int .i64 0],.st 178 [.int .i64 2000,.int .i64 1000],.st 178 [.int .i64 0,.int .i64 1000]],.int .i64 30,.cN true [.st 160 [.str [97],.int .i64 0,.str [48],.str [49,47,50,48]],.st 160 [.str [99],.int .i64 1,.str [57,47,50,48],.str [49,49,47,50,48]]],.aO]
def B:PV:=.cN true [.st 123 [.str [99,117,101],.st 23 [.str [53,48,48],.str [53,48,48]]],.st 123 [.str [111,110,101],.st 23 [.str [49,48,48,48],.str [53,48,48]]],.st 123 [.str [116,119,111],.st 23 [.str [49,48,48,48],.str [55,48,48]]]]
def aG:PV:=.str [99,117,101]
def one:PV:=.str [111,110,101]
def X:PV:=.st 80 [T,B,aG,one]
def Y:PV:=.st 196 [.st 194 [T,B,.dT [(.str [99,117,101],.st 132 [.st 130 [.st 128 [.int .i64 500,.aO],.st 128 [.int .i64 1,.aO]],.st 130 [.st 128 [.int .i64 500,.aO],.st 128 [.int .i64 1,.aO]]]),(.str [111,110,101],.st 132 [.st 130 [.st 128 [.int .i64 1000,.aO],.st 128 [.int .i64 1,.aO]],.st 130 [.st 128 [.int .i64 500,.aO],.st 128 [.int .i64 1,.aO]]]),(.str [116,119,111],.st 132 [.st 130 [.st 128 [.int .i64 1000,.aO],.st 128 [.int .i64 1,.aO]],.st 130 [.st 128 [.int .i64 700,.aO],.st 128 [.int .i64 1,.aO]]])],.st 130 [.st 128 [.int .i64 3600,.aO],.st 128 [.int .i64 1,.aO]]],.st 80 [T,B,.str [99,117,101],.str [111,110,101]]]
def WR:PV:=.cN false (.int .i64 0::[.int .i64 1,.int .i64 2,.int .i64 3,.int .i64 4,.int .i64 5,.int .i64 6,.int .i64 7,.int .i64 8,.int .i64 9,.int .i64 10,.int .i64 11,.int .i64 12,.int .i64 13,.int .i64 14,.int .i64 15,.int .i64 16,.int .i64 17,.int .i64 18,.int .i64 19,.int .i64 20,.int .i64 21,.int .i64 22,.int .i64 23,.int .i64 24,.int .i64 25,.int .i64 26,.int .i64 27,.int .i64 28,.int .i64 29,.int .i64 30,.int .i64 31,.int .i64 32]++[.int .i64 33,.int .i64 34,.int .i64 35,.int .i64 36,.int .i64 37,.int .i64 38,.int .i64 39,.int .i64 40,.int .i64 41,.int .i64 42,.int .i64 43,.int .i64 44,.int .i64 45,.int .i64 46,.int .i64 47,.int .i64 48,.int .i64 49,.int .i64 50,.int .i64 51,.int .i64 52,.int .i64 53,.int .i64 54,.int .i64 55,.int .i64 56,.int .i64 57,.int .i64 58,.int .i64 59,.int .i64 60,.int .i64 61,.int .i64 62,.int .i64 63,.int .i64 64])
def k0:List (FuncId×List PV×PV):=[]
theorem PU:Hk.kF k0:=trivial
theorem g1:au prog 99 [T] (.int .i64 0):=Hk.cM k0 PU (by kernel_rfl)
theorem g2:au prog 131 [T,B] (.int .i64 0):=Hk.cM k0 PU (by kernel_rfl)
def k1:List (FuncId×List PV×PV):=[(99,[T],.int .i64 0),(131,[T,B],.int .i64 0)]
theorem PW:Hk.kF k1:=⟨g1,g2,trivial⟩
theorem g3:au prog 126 [X] (.aC [Y,.int .i64 0]):=Hk.cM k1 PW (by kernel_rfl)
def k2:List (FuncId×List PV×PV):=[(126,[X],.aC [Y,.int .i64 0])]++k1
theorem dS:Hk.kF k2:=Hk.uH (l:=[(126,[X],.aC [Y,.int .i64 0])]) ⟨g3,trivial⟩ PW
end jh
end Go.ak
