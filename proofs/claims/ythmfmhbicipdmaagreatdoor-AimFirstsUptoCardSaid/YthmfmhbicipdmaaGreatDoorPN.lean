import Derived.Test.YthmfmhbicipdmaaGreatDoorPM
/- Parts of a proof. -/
set_option linter.unusedSimpArgs false
set_option linter.unusedVariables false
set_option linter.unusedSectionVars false
open Go.Proofs.Tryz
namespace Go.ak
open Go.Proofs
set_option maxRecDepth 100000
namespace jP
theorem y0:au prog 105 [Y,.int .i64 0] (.aC [.str [],.int .i64 18]):=Hk.cR k2 ez (by kernel_rfl)
theorem y1:au prog 105 [Y,.int .i64 1] (.aC [.str [],.int .i64 18]):=Hk.cR k2 ez (by kernel_rfl)
theorem y2:au prog 105 [Y,.int .i64 2] (.aC [.str [],.int .i64 18]):=Hk.cR k2 ez (by kernel_rfl)
theorem y3:au prog 105 [Y,.int .i64 3] (.aC [.str [],.int .i64 18]):=Hk.cR k2 ez (by kernel_rfl)
theorem y4:au prog 105 [Y,.int .i64 4] (.aC [.str [],.int .i64 18]):=Hk.cR k2 ez (by kernel_rfl)
theorem y5:au prog 105 [Y,.int .i64 5] (.aC [.str [],.int .i64 18]):=Hk.cR k2 ez (by kernel_rfl)
theorem y6:au prog 105 [Y,.int .i64 6] (.aC [.str [],.int .i64 18]):=Hk.cR k2 ez (by kernel_rfl)
theorem y7:au prog 105 [Y,.int .i64 7] (.aC [.str [],.int .i64 18]):=Hk.cR k2 ez (by kernel_rfl)
theorem y8:au prog 105 [Y,.int .i64 8] (.aC [.str [],.int .i64 18]):=Hk.cR k2 ez (by kernel_rfl)
theorem y9:au prog 105 [Y,.int .i64 9] (.aC [.str [],.int .i64 0]):=Hk.cR k2 ez (by kernel_rfl)
theorem y10:au prog 105 [Y,.int .i64 10] (.aC [.str [],.int .i64 0]):=Hk.cR k2 ez (by kernel_rfl)
theorem y11:au prog 105 [Y,.int .i64 11] (.aC [.str [],.int .i64 0]):=Hk.cR k2 ez (by kernel_rfl)
theorem y12:au prog 105 [Y,.int .i64 12] (.aC [.str [],.int .i64 0]):=Hk.cR k2 ez (by kernel_rfl)
theorem y13:au prog 105 [Y,.int .i64 13] (.aC [.str [],.int .i64 0]):=Hk.cR k2 ez (by kernel_rfl)
theorem y14:au prog 105 [Y,.int .i64 14] (.aC [.str [],.int .i64 0]):=Hk.cR k2 ez (by kernel_rfl)
theorem y15:au prog 105 [Y,.int .i64 15] (.aC [.str [],.int .i64 0]):=Hk.cR k2 ez (by kernel_rfl)
theorem y16:au prog 105 [Y,.int .i64 16] (.aC [.str [],.int .i64 0]):=Hk.cR k2 ez (by kernel_rfl)
theorem y17:au prog 105 [Y,.int .i64 17] (.aC [.str [],.int .i64 0]):=Hk.cR k2 ez (by kernel_rfl)
theorem y18:au prog 105 [Y,.int .i64 18] (.aC [.str [],.int .i64 0]):=Hk.cR k2 ez (by kernel_rfl)
theorem y19:au prog 105 [Y,.int .i64 19] (.aC [.str [],.int .i64 0]):=Hk.cR k2 ez (by kernel_rfl)
theorem y20:au prog 105 [Y,.int .i64 20] (.aC [.str [],.int .i64 0]):=Hk.cR k2 ez (by kernel_rfl)
theorem y21:au prog 105 [Y,.int .i64 21] (.aC [.str [],.int .i64 0]):=Hk.cR k2 ez (by kernel_rfl)
theorem y22:au prog 105 [Y,.int .i64 22] (.aC [.str [],.int .i64 0]):=Hk.cR k2 ez (by kernel_rfl)
theorem y23:au prog 105 [Y,.int .i64 23] (.aC [.str [],.int .i64 0]):=Hk.cR k2 ez (by kernel_rfl)
theorem y24:au prog 105 [Y,.int .i64 24] (.aC [.str [],.int .i64 18]):=Hk.cR k2 ez (by kernel_rfl)
theorem y25:au prog 105 [Y,.int .i64 25] (.aC [.str [],.int .i64 18]):=Hk.cR k2 ez (by kernel_rfl)
theorem y26:au prog 105 [Y,.int .i64 26] (.aC [.str [],.int .i64 18]):=Hk.cR k2 ez (by kernel_rfl)
theorem y27:au prog 105 [Y,.int .i64 27] (.aC [.str [],.int .i64 18]):=Hk.cR k2 ez (by kernel_rfl)
theorem y28:au prog 105 [Y,.int .i64 28] (.aC [.str [],.int .i64 18]):=Hk.cR k2 ez (by kernel_rfl)
theorem y29:au prog 105 [Y,.int .i64 29] (.aC [.str [],.int .i64 18]):=Hk.cR k2 ez (by kernel_rfl)
theorem y30:au prog 105 [Y,.int .i64 30] (.aC [.str [],.int .i64 18]):=Hk.cR k2 ez (by kernel_rfl)
theorem y31:au prog 105 [Y,.int .i64 31] (.aC [.str [],.int .i64 18]):=Hk.cR k2 ez (by kernel_rfl)
def k3:List (FuncId×List PV×PV):=[(105,[Y,.int .i64 0],.aC [.str [],.int .i64 18]),(105,[Y,.int .i64 1],.aC [.str [],.int .i64 18]),(105,[Y,.int .i64 2],.aC [.str [],.int .i64 18]),(105,[Y,.int .i64 3],.aC [.str [],.int .i64 18]),(105,[Y,.int .i64 4],.aC [.str [],.int .i64 18]),(105,[Y,.int .i64 5],.aC [.str [],.int .i64 18]),(105,[Y,.int .i64 6],.aC [.str [],.int .i64 18]),(105,[Y,.int .i64 7],.aC [.str [],.int .i64 18]),(105,[Y,.int .i64 8],.aC [.str [],.int .i64 18]),(105,[Y,.int .i64 9],.aC [.str [],.int .i64 0]),(105,[Y,.int .i64 10],.aC [.str [],.int .i64 0]),(105,[Y,.int .i64 11],.aC [.str [],.int .i64 0]),(105,[Y,.int .i64 12],.aC [.str [],.int .i64 0]),(105,[Y,.int .i64 13],.aC [.str [],.int .i64 0]),(105,[Y,.int .i64 14],.aC [.str [],.int .i64 0]),(105,[Y,.int .i64 15],.aC [.str [],.int .i64 0]),(105,[Y,.int .i64 16],.aC [.str [],.int .i64 0]),(105,[Y,.int .i64 17],.aC [.str [],.int .i64 0]),(105,[Y,.int .i64 18],.aC [.str [],.int .i64 0]),(105,[Y,.int .i64 19],.aC [.str [],.int .i64 0]),(105,[Y,.int .i64 20],.aC [.str [],.int .i64 0]),(105,[Y,.int .i64 21],.aC [.str [],.int .i64 0]),(105,[Y,.int .i64 22],.aC [.str [],.int .i64 0]),(105,[Y,.int .i64 23],.aC [.str [],.int .i64 0]),(105,[Y,.int .i64 24],.aC [.str [],.int .i64 18]),(105,[Y,.int .i64 25],.aC [.str [],.int .i64 18]),(105,[Y,.int .i64 26],.aC [.str [],.int .i64 18]),(105,[Y,.int .i64 27],.aC [.str [],.int .i64 18]),(105,[Y,.int .i64 28],.aC [.str [],.int .i64 18]),(105,[Y,.int .i64 29],.aC [.str [],.int .i64 18]),(105,[Y,.int .i64 30],.aC [.str [],.int .i64 18]),(105,[Y,.int .i64 31],.aC [.str [],.int .i64 18])]++k2
theorem jJ:Hk.lM k3:=Hk.wD (l:=[(105,[Y,.int .i64 0],.aC [.str [],.int .i64 18]),(105,[Y,.int .i64 1],.aC [.str [],.int .i64 18]),(105,[Y,.int .i64 2],.aC [.str [],.int .i64 18]),(105,[Y,.int .i64 3],.aC [.str [],.int .i64 18]),(105,[Y,.int .i64 4],.aC [.str [],.int .i64 18]),(105,[Y,.int .i64 5],.aC [.str [],.int .i64 18]),(105,[Y,.int .i64 6],.aC [.str [],.int .i64 18]),(105,[Y,.int .i64 7],.aC [.str [],.int .i64 18]),(105,[Y,.int .i64 8],.aC [.str [],.int .i64 18]),(105,[Y,.int .i64 9],.aC [.str [],.int .i64 0]),(105,[Y,.int .i64 10],.aC [.str [],.int .i64 0]),(105,[Y,.int .i64 11],.aC [.str [],.int .i64 0]),(105,[Y,.int .i64 12],.aC [.str [],.int .i64 0]),(105,[Y,.int .i64 13],.aC [.str [],.int .i64 0]),(105,[Y,.int .i64 14],.aC [.str [],.int .i64 0]),(105,[Y,.int .i64 15],.aC [.str [],.int .i64 0]),(105,[Y,.int .i64 16],.aC [.str [],.int .i64 0]),(105,[Y,.int .i64 17],.aC [.str [],.int .i64 0]),(105,[Y,.int .i64 18],.aC [.str [],.int .i64 0]),(105,[Y,.int .i64 19],.aC [.str [],.int .i64 0]),(105,[Y,.int .i64 20],.aC [.str [],.int .i64 0]),(105,[Y,.int .i64 21],.aC [.str [],.int .i64 0]),(105,[Y,.int .i64 22],.aC [.str [],.int .i64 0]),(105,[Y,.int .i64 23],.aC [.str [],.int .i64 0]),(105,[Y,.int .i64 24],.aC [.str [],.int .i64 18]),(105,[Y,.int .i64 25],.aC [.str [],.int .i64 18]),(105,[Y,.int .i64 26],.aC [.str [],.int .i64 18]),(105,[Y,.int .i64 27],.aC [.str [],.int .i64 18]),(105,[Y,.int .i64 28],.aC [.str [],.int .i64 18]),(105,[Y,.int .i64 29],.aC [.str [],.int .i64 18]),(105,[Y,.int .i64 30],.aC [.str [],.int .i64 18]),(105,[Y,.int .i64 31],.aC [.str [],.int .i64 18])]) ⟨y0,y1,y2,y3,y4,y5,y6,y7,y8,y9,y10,y11,y12,y13,y14,y15,y16,y17,y18,y19,y20,y21,y22,y23,y24,y25,y26,y27,y28,y29,y30,y31,trivial⟩ ez
end jP
end Go.ak
