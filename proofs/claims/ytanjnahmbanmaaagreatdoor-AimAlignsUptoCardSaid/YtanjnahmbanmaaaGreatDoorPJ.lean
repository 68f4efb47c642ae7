import Derived.Test.YtanjnahmbanmaaaGreatDoorPI
/- Parts of a proof. -/
set_option linter.unusedSimpArgs false
set_option linter.unusedVariables false
set_option linter.unusedSectionVars false
namespace Go.Abs
open Go.Proofs
set_option maxRecDepth 100000
namespace Aw4
theorem y0:aab Tryz.prog 127 [Y,.int .i64 0] (.tup [.str [],.int .i64 18]):=Hk.aau k2 abv (by kernel_rfl)
theorem y1:aab Tryz.prog 127 [Y,.int .i64 1] (.tup [.str [],.int .i64 18]):=Hk.aau k2 abv (by kernel_rfl)
theorem y2:aab Tryz.prog 127 [Y,.int .i64 2] (.tup [.str [],.int .i64 18]):=Hk.aau k2 abv (by kernel_rfl)
theorem y3:aab Tryz.prog 127 [Y,.int .i64 3] (.tup [.str [],.int .i64 18]):=Hk.aau k2 abv (by kernel_rfl)
theorem y4:aab Tryz.prog 127 [Y,.int .i64 4] (.tup [.str [],.int .i64 18]):=Hk.aau k2 abv (by kernel_rfl)
theorem y5:aab Tryz.prog 127 [Y,.int .i64 5] (.tup [.str [],.int .i64 18]):=Hk.aau k2 abv (by kernel_rfl)
theorem y6:aab Tryz.prog 127 [Y,.int .i64 6] (.tup [.str [],.int .i64 18]):=Hk.aau k2 abv (by kernel_rfl)
theorem y7:aab Tryz.prog 127 [Y,.int .i64 7] (.tup [.str [],.int .i64 18]):=Hk.aau k2 abv (by kernel_rfl)
theorem y8:aab Tryz.prog 127 [Y,.int .i64 8] (.tup [.str [],.int .i64 18]):=Hk.aau k2 abv (by kernel_rfl)
theorem y9:aab Tryz.prog 127 [Y,.int .i64 9] (.tup [.str [],.int .i64 0]):=Hk.aau k2 abv (by kernel_rfl)
theorem y10:aab Tryz.prog 127 [Y,.int .i64 10] (.tup [.str [],.int .i64 0]):=Hk.aau k2 abv (by kernel_rfl)
theorem y11:aab Tryz.prog 127 [Y,.int .i64 11] (.tup [.str [],.int .i64 0]):=Hk.aau k2 abv (by kernel_rfl)
theorem y12:aab Tryz.prog 127 [Y,.int .i64 12] (.tup [.str [],.int .i64 0]):=Hk.aau k2 abv (by kernel_rfl)
theorem y13:aab Tryz.prog 127 [Y,.int .i64 13] (.tup [.str [],.int .i64 0]):=Hk.aau k2 abv (by kernel_rfl)
theorem y14:aab Tryz.prog 127 [Y,.int .i64 14] (.tup [.str [],.int .i64 0]):=Hk.aau k2 abv (by kernel_rfl)
theorem y15:aab Tryz.prog 127 [Y,.int .i64 15] (.tup [.str [],.int .i64 0]):=Hk.aau k2 abv (by kernel_rfl)
theorem y16:aab Tryz.prog 127 [Y,.int .i64 16] (.tup [.str [],.int .i64 0]):=Hk.aau k2 abv (by kernel_rfl)
theorem y17:aab Tryz.prog 127 [Y,.int .i64 17] (.tup [.str [],.int .i64 0]):=Hk.aau k2 abv (by kernel_rfl)
theorem y18:aab Tryz.prog 127 [Y,.int .i64 18] (.tup [.str [],.int .i64 0]):=Hk.aau k2 abv (by kernel_rfl)
theorem y19:aab Tryz.prog 127 [Y,.int .i64 19] (.tup [.str [],.int .i64 0]):=Hk.aau k2 abv (by kernel_rfl)
theorem y20:aab Tryz.prog 127 [Y,.int .i64 20] (.tup [.str [],.int .i64 0]):=Hk.aau k2 abv (by kernel_rfl)
theorem y21:aab Tryz.prog 127 [Y,.int .i64 21] (.tup [.str [],.int .i64 0]):=Hk.aau k2 abv (by kernel_rfl)
theorem y22:aab Tryz.prog 127 [Y,.int .i64 22] (.tup [.str [],.int .i64 0]):=Hk.aau k2 abv (by kernel_rfl)
theorem y23:aab Tryz.prog 127 [Y,.int .i64 23] (.tup [.str [],.int .i64 0]):=Hk.aau k2 abv (by kernel_rfl)
theorem y24:aab Tryz.prog 127 [Y,.int .i64 24] (.tup [.str [],.int .i64 18]):=Hk.aau k2 abv (by kernel_rfl)
theorem y25:aab Tryz.prog 127 [Y,.int .i64 25] (.tup [.str [],.int .i64 18]):=Hk.aau k2 abv (by kernel_rfl)
theorem y26:aab Tryz.prog 127 [Y,.int .i64 26] (.tup [.str [],.int .i64 18]):=Hk.aau k2 abv (by kernel_rfl)
theorem y27:aab Tryz.prog 127 [Y,.int .i64 27] (.tup [.str [],.int .i64 18]):=Hk.aau k2 abv (by kernel_rfl)
theorem y28:aab Tryz.prog 127 [Y,.int .i64 28] (.tup [.str [],.int .i64 18]):=Hk.aau k2 abv (by kernel_rfl)
theorem y29:aab Tryz.prog 127 [Y,.int .i64 29] (.tup [.str [],.int .i64 18]):=Hk.aau k2 abv (by kernel_rfl)
theorem y30:aab Tryz.prog 127 [Y,.int .i64 30] (.tup [.str [],.int .i64 18]):=Hk.aau k2 abv (by kernel_rfl)
theorem y31:aab Tryz.prog 127 [Y,.int .i64 31] (.tup [.str [],.int .i64 18]):=Hk.aau k2 abv (by kernel_rfl)
def k3:List (FuncId×List PV×PV):=[(127,[Y,.int .i64 0],.tup [.str [],.int .i64 18]),(127,[Y,.int .i64 1],.tup [.str [],.int .i64 18]),(127,[Y,.int .i64 2],.tup [.str [],.int .i64 18]),(127,[Y,.int .i64 3],.tup [.str [],.int .i64 18]),(127,[Y,.int .i64 4],.tup [.str [],.int .i64 18]),(127,[Y,.int .i64 5],.tup [.str [],.int .i64 18]),(127,[Y,.int .i64 6],.tup [.str [],.int .i64 18]),(127,[Y,.int .i64 7],.tup [.str [],.int .i64 18]),(127,[Y,.int .i64 8],.tup [.str [],.int .i64 18]),(127,[Y,.int .i64 9],.tup [.str [],.int .i64 0]),(127,[Y,.int .i64 10],.tup [.str [],.int .i64 0]),(127,[Y,.int .i64 11],.tup [.str [],.int .i64 0]),(127,[Y,.int .i64 12],.tup [.str [],.int .i64 0]),(127,[Y,.int .i64 13],.tup [.str [],.int .i64 0]),(127,[Y,.int .i64 14],.tup [.str [],.int .i64 0]),(127,[Y,.int .i64 15],.tup [.str [],.int .i64 0]),(127,[Y,.int .i64 16],.tup [.str [],.int .i64 0]),(127,[Y,.int .i64 17],.tup [.str [],.int .i64 0]),(127,[Y,.int .i64 18],.tup [.str [],.int .i64 0]),(127,[Y,.int .i64 19],.tup [.str [],.int .i64 0]),(127,[Y,.int .i64 20],.tup [.str [],.int .i64 0]),(127,[Y,.int .i64 21],.tup [.str [],.int .i64 0]),(127,[Y,.int .i64 22],.tup [.str [],.int .i64 0]),(127,[Y,.int .i64 23],.tup [.str [],.int .i64 0]),(127,[Y,.int .i64 24],.tup [.str [],.int .i64 18]),(127,[Y,.int .i64 25],.tup [.str [],.int .i64 18]),(127,[Y,.int .i64 26],.tup [.str [],.int .i64 18]),(127,[Y,.int .i64 27],.tup [.str [],.int .i64 18]),(127,[Y,.int .i64 28],.tup [.str [],.int .i64 18]),(127,[Y,.int .i64 29],.tup [.str [],.int .i64 18]),(127,[Y,.int .i64 30],.tup [.str [],.int .i64 18]),(127,[Y,.int .i64 31],.tup [.str [],.int .i64 18])] ++ k2
theorem aeQ:Hk.AllG k3:=Hk.afY (l:=[(127,[Y,.int .i64 0],.tup [.str [],.int .i64 18]),(127,[Y,.int .i64 1],.tup [.str [],.int .i64 18]),(127,[Y,.int .i64 2],.tup [.str [],.int .i64 18]),(127,[Y,.int .i64 3],.tup [.str [],.int .i64 18]),(127,[Y,.int .i64 4],.tup [.str [],.int .i64 18]),(127,[Y,.int .i64 5],.tup [.str [],.int .i64 18]),(127,[Y,.int .i64 6],.tup [.str [],.int .i64 18]),(127,[Y,.int .i64 7],.tup [.str [],.int .i64 18]),(127,[Y,.int .i64 8],.tup [.str [],.int .i64 18]),(127,[Y,.int .i64 9],.tup [.str [],.int .i64 0]),(127,[Y,.int .i64 10],.tup [.str [],.int .i64 0]),(127,[Y,.int .i64 11],.tup [.str [],.int .i64 0]),(127,[Y,.int .i64 12],.tup [.str [],.int .i64 0]),(127,[Y,.int .i64 13],.tup [.str [],.int .i64 0]),(127,[Y,.int .i64 14],.tup [.str [],.int .i64 0]),(127,[Y,.int .i64 15],.tup [.str [],.int .i64 0]),(127,[Y,.int .i64 16],.tup [.str [],.int .i64 0]),(127,[Y,.int .i64 17],.tup [.str [],.int .i64 0]),(127,[Y,.int .i64 18],.tup [.str [],.int .i64 0]),(127,[Y,.int .i64 19],.tup [.str [],.int .i64 0]),(127,[Y,.int .i64 20],.tup [.str [],.int .i64 0]),(127,[Y,.int .i64 21],.tup [.str [],.int .i64 0]),(127,[Y,.int .i64 22],.tup [.str [],.int .i64 0]),(127,[Y,.int .i64 23],.tup [.str [],.int .i64 0]),(127,[Y,.int .i64 24],.tup [.str [],.int .i64 18]),(127,[Y,.int .i64 25],.tup [.str [],.int .i64 18]),(127,[Y,.int .i64 26],.tup [.str [],.int .i64 18]),(127,[Y,.int .i64 27],.tup [.str [],.int .i64 18]),(127,[Y,.int .i64 28],.tup [.str [],.int .i64 18]),(127,[Y,.int .i64 29],.tup [.str [],.int .i64 18]),(127,[Y,.int .i64 30],.tup [.str [],.int .i64 18]),(127,[Y,.int .i64 31],.tup [.str [],.int .i64 18])]) ⟨y0,y1,y2,y3,y4,y5,y6,y7,y8,y9,y10,y11,y12,y13,y14,y15,y16,y17,y18,y19,y20,y21,y22,y23,y24,y25,y26,y27,y28,y29,y30,y31,trivial⟩ abv
end Aw4
end Go.Abs
