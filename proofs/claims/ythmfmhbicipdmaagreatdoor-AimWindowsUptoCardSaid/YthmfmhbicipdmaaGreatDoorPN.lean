import Derived.Test.YthmfmhbicipdmaaGreatDoorPM
/- Parts of a proof. -/
set_option linter.unusedSimpArgs false
set_option linter.unusedVariables false
set_option linter.unusedSectionVars false
open Go.Proofs.Tryz
namespace Go.ah
open Go.Proofs
set_option maxRecDepth 100000
namespace jC
theorem y0:ar prog 105 [Y,.int .i64 0] (.aE [.str [],.int .i64 18]):=Hk.cS k2 dZ (by kernel_rfl)
theorem y1:ar prog 105 [Y,.int .i64 1] (.aE [.str [],.int .i64 18]):=Hk.cS k2 dZ (by kernel_rfl)
theorem y2:ar prog 105 [Y,.int .i64 2] (.aE [.str [],.int .i64 18]):=Hk.cS k2 dZ (by kernel_rfl)
theorem y3:ar prog 105 [Y,.int .i64 3] (.aE [.str [],.int .i64 18]):=Hk.cS k2 dZ (by kernel_rfl)
theorem y4:ar prog 105 [Y,.int .i64 4] (.aE [.str [],.int .i64 18]):=Hk.cS k2 dZ (by kernel_rfl)
theorem y5:ar prog 105 [Y,.int .i64 5] (.aE [.str [],.int .i64 18]):=Hk.cS k2 dZ (by kernel_rfl)
theorem y6:ar prog 105 [Y,.int .i64 6] (.aE [.str [],.int .i64 18]):=Hk.cS k2 dZ (by kernel_rfl)
theorem y7:ar prog 105 [Y,.int .i64 7] (.aE [.str [],.int .i64 18]):=Hk.cS k2 dZ (by kernel_rfl)
theorem y8:ar prog 105 [Y,.int .i64 8] (.aE [.str [],.int .i64 18]):=Hk.cS k2 dZ (by kernel_rfl)
theorem y9:ar prog 105 [Y,.int .i64 9] (.aE [.str [],.int .i64 0]):=Hk.cS k2 dZ (by kernel_rfl)
theorem y10:ar prog 105 [Y,.int .i64 10] (.aE [.str [],.int .i64 0]):=Hk.cS k2 dZ (by kernel_rfl)
theorem y11:ar prog 105 [Y,.int .i64 11] (.aE [.str [],.int .i64 0]):=Hk.cS k2 dZ (by kernel_rfl)
theorem y12:ar prog 105 [Y,.int .i64 12] (.aE [.str [],.int .i64 0]):=Hk.cS k2 dZ (by kernel_rfl)
theorem y13:ar prog 105 [Y,.int .i64 13] (.aE [.str [],.int .i64 0]):=Hk.cS k2 dZ (by kernel_rfl)
theorem y14:ar prog 105 [Y,.int .i64 14] (.aE [.str [],.int .i64 0]):=Hk.cS k2 dZ (by kernel_rfl)
theorem y15:ar prog 105 [Y,.int .i64 15] (.aE [.str [],.int .i64 0]):=Hk.cS k2 dZ (by kernel_rfl)
theorem y16:ar prog 105 [Y,.int .i64 16] (.aE [.str [],.int .i64 0]):=Hk.cS k2 dZ (by kernel_rfl)
theorem y17:ar prog 105 [Y,.int .i64 17] (.aE [.str [],.int .i64 0]):=Hk.cS k2 dZ (by kernel_rfl)
theorem y18:ar prog 105 [Y,.int .i64 18] (.aE [.str [],.int .i64 0]):=Hk.cS k2 dZ (by kernel_rfl)
theorem y19:ar prog 105 [Y,.int .i64 19] (.aE [.str [],.int .i64 0]):=Hk.cS k2 dZ (by kernel_rfl)
theorem y20:ar prog 105 [Y,.int .i64 20] (.aE [.str [],.int .i64 0]):=Hk.cS k2 dZ (by kernel_rfl)
theorem y21:ar prog 105 [Y,.int .i64 21] (.aE [.str [],.int .i64 0]):=Hk.cS k2 dZ (by kernel_rfl)
theorem y22:ar prog 105 [Y,.int .i64 22] (.aE [.str [],.int .i64 0]):=Hk.cS k2 dZ (by kernel_rfl)
theorem y23:ar prog 105 [Y,.int .i64 23] (.aE [.str [],.int .i64 0]):=Hk.cS k2 dZ (by kernel_rfl)
theorem y24:ar prog 105 [Y,.int .i64 24] (.aE [.str [],.int .i64 18]):=Hk.cS k2 dZ (by kernel_rfl)
theorem y25:ar prog 105 [Y,.int .i64 25] (.aE [.str [],.int .i64 18]):=Hk.cS k2 dZ (by kernel_rfl)
theorem y26:ar prog 105 [Y,.int .i64 26] (.aE [.str [],.int .i64 18]):=Hk.cS k2 dZ (by kernel_rfl)
theorem y27:ar prog 105 [Y,.int .i64 27] (.aE [.str [],.int .i64 18]):=Hk.cS k2 dZ (by kernel_rfl)
theorem y28:ar prog 105 [Y,.int .i64 28] (.aE [.str [],.int .i64 18]):=Hk.cS k2 dZ (by kernel_rfl)
theorem y29:ar prog 105 [Y,.int .i64 29] (.aE [.str [],.int .i64 18]):=Hk.cS k2 dZ (by kernel_rfl)
theorem y30:ar prog 105 [Y,.int .i64 30] (.aE [.str [],.int .i64 18]):=Hk.cS k2 dZ (by kernel_rfl)
theorem y31:ar prog 105 [Y,.int .i64 31] (.aE [.str [],.int .i64 18]):=Hk.cS k2 dZ (by kernel_rfl)
def k3:List (FuncId×List PV×PV):=[(105,[Y,.int .i64 0],.aE [.str [],.int .i64 18]),(105,[Y,.int .i64 1],.aE [.str [],.int .i64 18]),(105,[Y,.int .i64 2],.aE [.str [],.int .i64 18]),(105,[Y,.int .i64 3],.aE [.str [],.int .i64 18]),(105,[Y,.int .i64 4],.aE [.str [],.int .i64 18]),(105,[Y,.int .i64 5],.aE [.str [],.int .i64 18]),(105,[Y,.int .i64 6],.aE [.str [],.int .i64 18]),(105,[Y,.int .i64 7],.aE [.str [],.int .i64 18]),(105,[Y,.int .i64 8],.aE [.str [],.int .i64 18]),(105,[Y,.int .i64 9],.aE [.str [],.int .i64 0]),(105,[Y,.int .i64 10],.aE [.str [],.int .i64 0]),(105,[Y,.int .i64 11],.aE [.str [],.int .i64 0]),(105,[Y,.int .i64 12],.aE [.str [],.int .i64 0]),(105,[Y,.int .i64 13],.aE [.str [],.int .i64 0]),(105,[Y,.int .i64 14],.aE [.str [],.int .i64 0]),(105,[Y,.int .i64 15],.aE [.str [],.int .i64 0]),(105,[Y,.int .i64 16],.aE [.str [],.int .i64 0]),(105,[Y,.int .i64 17],.aE [.str [],.int .i64 0]),(105,[Y,.int .i64 18],.aE [.str [],.int .i64 0]),(105,[Y,.int .i64 19],.aE [.str [],.int .i64 0]),(105,[Y,.int .i64 20],.aE [.str [],.int .i64 0]),(105,[Y,.int .i64 21],.aE [.str [],.int .i64 0]),(105,[Y,.int .i64 22],.aE [.str [],.int .i64 0]),(105,[Y,.int .i64 23],.aE [.str [],.int .i64 0]),(105,[Y,.int .i64 24],.aE [.str [],.int .i64 18]),(105,[Y,.int .i64 25],.aE [.str [],.int .i64 18]),(105,[Y,.int .i64 26],.aE [.str [],.int .i64 18]),(105,[Y,.int .i64 27],.aE [.str [],.int .i64 18]),(105,[Y,.int .i64 28],.aE [.str [],.int .i64 18]),(105,[Y,.int .i64 29],.aE [.str [],.int .i64 18]),(105,[Y,.int .i64 30],.aE [.str [],.int .i64 18]),(105,[Y,.int .i64 31],.aE [.str [],.int .i64 18])]++k2
theorem jw:Hk.lD k3:=Hk.vI (l:=[(105,[Y,.int .i64 0],.aE [.str [],.int .i64 18]),(105,[Y,.int .i64 1],.aE [.str [],.int .i64 18]),(105,[Y,.int .i64 2],.aE [.str [],.int .i64 18]),(105,[Y,.int .i64 3],.aE [.str [],.int .i64 18]),(105,[Y,.int .i64 4],.aE [.str [],.int .i64 18]),(105,[Y,.int .i64 5],.aE [.str [],.int .i64 18]),(105,[Y,.int .i64 6],.aE [.str [],.int .i64 18]),(105,[Y,.int .i64 7],.aE [.str [],.int .i64 18]),(105,[Y,.int .i64 8],.aE [.str [],.int .i64 18]),(105,[Y,.int .i64 9],.aE [.str [],.int .i64 0]),(105,[Y,.int .i64 10],.aE [.str [],.int .i64 0]),(105,[Y,.int .i64 11],.aE [.str [],.int .i64 0]),(105,[Y,.int .i64 12],.aE [.str [],.int .i64 0]),(105,[Y,.int .i64 13],.aE [.str [],.int .i64 0]),(105,[Y,.int .i64 14],.aE [.str [],.int .i64 0]),(105,[Y,.int .i64 15],.aE [.str [],.int .i64 0]),(105,[Y,.int .i64 16],.aE [.str [],.int .i64 0]),(105,[Y,.int .i64 17],.aE [.str [],.int .i64 0]),(105,[Y,.int .i64 18],.aE [.str [],.int .i64 0]),(105,[Y,.int .i64 19],.aE [.str [],.int .i64 0]),(105,[Y,.int .i64 20],.aE [.str [],.int .i64 0]),(105,[Y,.int .i64 21],.aE [.str [],.int .i64 0]),(105,[Y,.int .i64 22],.aE [.str [],.int .i64 0]),(105,[Y,.int .i64 23],.aE [.str [],.int .i64 0]),(105,[Y,.int .i64 24],.aE [.str [],.int .i64 18]),(105,[Y,.int .i64 25],.aE [.str [],.int .i64 18]),(105,[Y,.int .i64 26],.aE [.str [],.int .i64 18]),(105,[Y,.int .i64 27],.aE [.str [],.int .i64 18]),(105,[Y,.int .i64 28],.aE [.str [],.int .i64 18]),(105,[Y,.int .i64 29],.aE [.str [],.int .i64 18]),(105,[Y,.int .i64 30],.aE [.str [],.int .i64 18]),(105,[Y,.int .i64 31],.aE [.str [],.int .i64 18])]) ⟨y0,y1,y2,y3,y4,y5,y6,y7,y8,y9,y10,y11,y12,y13,y14,y15,y16,y17,y18,y19,y20,y21,y22,y23,y24,y25,y26,y27,y28,y29,y30,y31,trivial⟩ dZ
end jC
end Go.ah
