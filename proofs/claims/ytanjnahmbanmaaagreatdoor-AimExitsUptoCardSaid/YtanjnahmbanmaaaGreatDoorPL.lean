import Derived.Test.YtanjnahmbanmaaaGreatDoorPK
/- Parts of a proof. -/
set_option linter.unusedSimpArgs false
set_option linter.unusedVariables false
set_option linter.unusedSectionVars false
open Go.Proofs.Tryz
namespace Go.az
open Go.Proofs
set_option maxRecDepth 100000
namespace jc
theorem y0:au prog 127 [Y,.int .i64 0] (.aA [.str [],.int .i64 18]):=Hk.cC k2 dV (by kernel_rfl)
theorem y1:au prog 127 [Y,.int .i64 1] (.aA [.str [],.int .i64 18]):=Hk.cC k2 dV (by kernel_rfl)
theorem y2:au prog 127 [Y,.int .i64 2] (.aA [.str [],.int .i64 18]):=Hk.cC k2 dV (by kernel_rfl)
theorem y3:au prog 127 [Y,.int .i64 3] (.aA [.str [],.int .i64 18]):=Hk.cC k2 dV (by kernel_rfl)
theorem y4:au prog 127 [Y,.int .i64 4] (.aA [.str [],.int .i64 18]):=Hk.cC k2 dV (by kernel_rfl)
theorem y5:au prog 127 [Y,.int .i64 5] (.aA [.str [],.int .i64 18]):=Hk.cC k2 dV (by kernel_rfl)
theorem y6:au prog 127 [Y,.int .i64 6] (.aA [.str [],.int .i64 18]):=Hk.cC k2 dV (by kernel_rfl)
theorem y7:au prog 127 [Y,.int .i64 7] (.aA [.str [],.int .i64 18]):=Hk.cC k2 dV (by kernel_rfl)
theorem y8:au prog 127 [Y,.int .i64 8] (.aA [.str [],.int .i64 18]):=Hk.cC k2 dV (by kernel_rfl)
theorem y9:au prog 127 [Y,.int .i64 9] (.aA [.str [],.int .i64 0]):=Hk.cC k2 dV (by kernel_rfl)
theorem y10:au prog 127 [Y,.int .i64 10] (.aA [.str [],.int .i64 0]):=Hk.cC k2 dV (by kernel_rfl)
theorem y11:au prog 127 [Y,.int .i64 11] (.aA [.str [],.int .i64 0]):=Hk.cC k2 dV (by kernel_rfl)
theorem y12:au prog 127 [Y,.int .i64 12] (.aA [.str [],.int .i64 0]):=Hk.cC k2 dV (by kernel_rfl)
theorem y13:au prog 127 [Y,.int .i64 13] (.aA [.str [],.int .i64 0]):=Hk.cC k2 dV (by kernel_rfl)
theorem y14:au prog 127 [Y,.int .i64 14] (.aA [.str [],.int .i64 0]):=Hk.cC k2 dV (by kernel_rfl)
theorem y15:au prog 127 [Y,.int .i64 15] (.aA [.str [],.int .i64 0]):=Hk.cC k2 dV (by kernel_rfl)
theorem y16:au prog 127 [Y,.int .i64 16] (.aA [.str [],.int .i64 0]):=Hk.cC k2 dV (by kernel_rfl)
theorem y17:au prog 127 [Y,.int .i64 17] (.aA [.str [],.int .i64 0]):=Hk.cC k2 dV (by kernel_rfl)
theorem y18:au prog 127 [Y,.int .i64 18] (.aA [.str [],.int .i64 0]):=Hk.cC k2 dV (by kernel_rfl)
theorem y19:au prog 127 [Y,.int .i64 19] (.aA [.str [],.int .i64 0]):=Hk.cC k2 dV (by kernel_rfl)
theorem y20:au prog 127 [Y,.int .i64 20] (.aA [.str [],.int .i64 0]):=Hk.cC k2 dV (by kernel_rfl)
theorem y21:au prog 127 [Y,.int .i64 21] (.aA [.str [],.int .i64 0]):=Hk.cC k2 dV (by kernel_rfl)
theorem y22:au prog 127 [Y,.int .i64 22] (.aA [.str [],.int .i64 0]):=Hk.cC k2 dV (by kernel_rfl)
theorem y23:au prog 127 [Y,.int .i64 23] (.aA [.str [],.int .i64 0]):=Hk.cC k2 dV (by kernel_rfl)
theorem y24:au prog 127 [Y,.int .i64 24] (.aA [.str [],.int .i64 18]):=Hk.cC k2 dV (by kernel_rfl)
theorem y25:au prog 127 [Y,.int .i64 25] (.aA [.str [],.int .i64 18]):=Hk.cC k2 dV (by kernel_rfl)
theorem y26:au prog 127 [Y,.int .i64 26] (.aA [.str [],.int .i64 18]):=Hk.cC k2 dV (by kernel_rfl)
theorem y27:au prog 127 [Y,.int .i64 27] (.aA [.str [],.int .i64 18]):=Hk.cC k2 dV (by kernel_rfl)
theorem y28:au prog 127 [Y,.int .i64 28] (.aA [.str [],.int .i64 18]):=Hk.cC k2 dV (by kernel_rfl)
theorem y29:au prog 127 [Y,.int .i64 29] (.aA [.str [],.int .i64 18]):=Hk.cC k2 dV (by kernel_rfl)
theorem y30:au prog 127 [Y,.int .i64 30] (.aA [.str [],.int .i64 18]):=Hk.cC k2 dV (by kernel_rfl)
theorem y31:au prog 127 [Y,.int .i64 31] (.aA [.str [],.int .i64 18]):=Hk.cC k2 dV (by kernel_rfl)
def k3:List (FuncId×List PV×PV):=[(127,[Y,.int .i64 0],.aA [.str [],.int .i64 18]),(127,[Y,.int .i64 1],.aA [.str [],.int .i64 18]),(127,[Y,.int .i64 2],.aA [.str [],.int .i64 18]),(127,[Y,.int .i64 3],.aA [.str [],.int .i64 18]),(127,[Y,.int .i64 4],.aA [.str [],.int .i64 18]),(127,[Y,.int .i64 5],.aA [.str [],.int .i64 18]),(127,[Y,.int .i64 6],.aA [.str [],.int .i64 18]),(127,[Y,.int .i64 7],.aA [.str [],.int .i64 18]),(127,[Y,.int .i64 8],.aA [.str [],.int .i64 18]),(127,[Y,.int .i64 9],.aA [.str [],.int .i64 0]),(127,[Y,.int .i64 10],.aA [.str [],.int .i64 0]),(127,[Y,.int .i64 11],.aA [.str [],.int .i64 0]),(127,[Y,.int .i64 12],.aA [.str [],.int .i64 0]),(127,[Y,.int .i64 13],.aA [.str [],.int .i64 0]),(127,[Y,.int .i64 14],.aA [.str [],.int .i64 0]),(127,[Y,.int .i64 15],.aA [.str [],.int .i64 0]),(127,[Y,.int .i64 16],.aA [.str [],.int .i64 0]),(127,[Y,.int .i64 17],.aA [.str [],.int .i64 0]),(127,[Y,.int .i64 18],.aA [.str [],.int .i64 0]),(127,[Y,.int .i64 19],.aA [.str [],.int .i64 0]),(127,[Y,.int .i64 20],.aA [.str [],.int .i64 0]),(127,[Y,.int .i64 21],.aA [.str [],.int .i64 0]),(127,[Y,.int .i64 22],.aA [.str [],.int .i64 0]),(127,[Y,.int .i64 23],.aA [.str [],.int .i64 0]),(127,[Y,.int .i64 24],.aA [.str [],.int .i64 18]),(127,[Y,.int .i64 25],.aA [.str [],.int .i64 18]),(127,[Y,.int .i64 26],.aA [.str [],.int .i64 18]),(127,[Y,.int .i64 27],.aA [.str [],.int .i64 18]),(127,[Y,.int .i64 28],.aA [.str [],.int .i64 18]),(127,[Y,.int .i64 29],.aA [.str [],.int .i64 18]),(127,[Y,.int .i64 30],.aA [.str [],.int .i64 18]),(127,[Y,.int .i64 31],.aA [.str [],.int .i64 18])]++k2
theorem iT:Hk.kq k3:=Hk.tX (l:=[(127,[Y,.int .i64 0],.aA [.str [],.int .i64 18]),(127,[Y,.int .i64 1],.aA [.str [],.int .i64 18]),(127,[Y,.int .i64 2],.aA [.str [],.int .i64 18]),(127,[Y,.int .i64 3],.aA [.str [],.int .i64 18]),(127,[Y,.int .i64 4],.aA [.str [],.int .i64 18]),(127,[Y,.int .i64 5],.aA [.str [],.int .i64 18]),(127,[Y,.int .i64 6],.aA [.str [],.int .i64 18]),(127,[Y,.int .i64 7],.aA [.str [],.int .i64 18]),(127,[Y,.int .i64 8],.aA [.str [],.int .i64 18]),(127,[Y,.int .i64 9],.aA [.str [],.int .i64 0]),(127,[Y,.int .i64 10],.aA [.str [],.int .i64 0]),(127,[Y,.int .i64 11],.aA [.str [],.int .i64 0]),(127,[Y,.int .i64 12],.aA [.str [],.int .i64 0]),(127,[Y,.int .i64 13],.aA [.str [],.int .i64 0]),(127,[Y,.int .i64 14],.aA [.str [],.int .i64 0]),(127,[Y,.int .i64 15],.aA [.str [],.int .i64 0]),(127,[Y,.int .i64 16],.aA [.str [],.int .i64 0]),(127,[Y,.int .i64 17],.aA [.str [],.int .i64 0]),(127,[Y,.int .i64 18],.aA [.str [],.int .i64 0]),(127,[Y,.int .i64 19],.aA [.str [],.int .i64 0]),(127,[Y,.int .i64 20],.aA [.str [],.int .i64 0]),(127,[Y,.int .i64 21],.aA [.str [],.int .i64 0]),(127,[Y,.int .i64 22],.aA [.str [],.int .i64 0]),(127,[Y,.int .i64 23],.aA [.str [],.int .i64 0]),(127,[Y,.int .i64 24],.aA [.str [],.int .i64 18]),(127,[Y,.int .i64 25],.aA [.str [],.int .i64 18]),(127,[Y,.int .i64 26],.aA [.str [],.int .i64 18]),(127,[Y,.int .i64 27],.aA [.str [],.int .i64 18]),(127,[Y,.int .i64 28],.aA [.str [],.int .i64 18]),(127,[Y,.int .i64 29],.aA [.str [],.int .i64 18]),(127,[Y,.int .i64 30],.aA [.str [],.int .i64 18]),(127,[Y,.int .i64 31],.aA [.str [],.int .i64 18])]) ⟨y0,y1,y2,y3,y4,y5,y6,y7,y8,y9,y10,y11,y12,y13,y14,y15,y16,y17,y18,y19,y20,y21,y22,y23,y24,y25,y26,y27,y28,y29,y30,y31,trivial⟩ dV
end jc
end Go.az
