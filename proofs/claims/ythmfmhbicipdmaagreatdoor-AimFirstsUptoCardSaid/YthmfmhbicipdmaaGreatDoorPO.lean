import Derived.Test.YthmfmhbicipdmaaGreatDoorPN
/- Parts of a proof. -/
set_option linter.unusedSimpArgs false
set_option linter.unusedVariables false
set_option linter.unusedSectionVars false
open Go.Proofs.Tryz
namespace Go.ak
open Go.Proofs
set_option maxRecDepth 100000
namespace jP
theorem z0:au prog 139 [Y,.int .i64 9,.str [99]] (.bool false):=Hk.cR k3 jJ (by kernel_rfl)
theorem z1:au prog 139 [Y,.int .i64 10,.str [99]] (.bool false):=Hk.cR k3 jJ (by kernel_rfl)
theorem z2:au prog 139 [Y,.int .i64 11,.str [99]] (.bool false):=Hk.cR k3 jJ (by kernel_rfl)
theorem z3:au prog 139 [Y,.int .i64 12,.str [99]] (.bool false):=Hk.cR k3 jJ (by kernel_rfl)
theorem z4:au prog 139 [Y,.int .i64 13,.str [99]] (.bool false):=Hk.cR k3 jJ (by kernel_rfl)
theorem z5:au prog 139 [Y,.int .i64 14,.str [99]] (.bool false):=Hk.cR k3 jJ (by kernel_rfl)
theorem z6:au prog 139 [Y,.int .i64 15,.str [99]] (.bool false):=Hk.cR k3 jJ (by kernel_rfl)
theorem z7:au prog 139 [Y,.int .i64 16,.str [99]] (.bool true):=Hk.cR k3 jJ (by kernel_rfl)
theorem z8:au prog 139 [Y,.int .i64 17,.str [99]] (.bool false):=Hk.cR k3 jJ (by kernel_rfl)
theorem z9:au prog 139 [Y,.int .i64 18,.str [99]] (.bool false):=Hk.cR k3 jJ (by kernel_rfl)
theorem z10:au prog 139 [Y,.int .i64 19,.str [99]] (.bool false):=Hk.cR k3 jJ (by kernel_rfl)
theorem z11:au prog 139 [Y,.int .i64 20,.str [99]] (.bool false):=Hk.cR k3 jJ (by kernel_rfl)
theorem z12:au prog 139 [Y,.int .i64 21,.str [99]] (.bool false):=Hk.cR k3 jJ (by kernel_rfl)
theorem z13:au prog 139 [Y,.int .i64 22,.str [99]] (.bool false):=Hk.cR k3 jJ (by kernel_rfl)
theorem z14:au prog 139 [Y,.int .i64 23,.str [99]] (.bool false):=Hk.cR k3 jJ (by kernel_rfl)
def k4:List (FuncId×List PV×PV):=[(139,[Y,.int .i64 9,.str [99]],.bool false),(139,[Y,.int .i64 10,.str [99]],.bool false),(139,[Y,.int .i64 11,.str [99]],.bool false),(139,[Y,.int .i64 12,.str [99]],.bool false),(139,[Y,.int .i64 13,.str [99]],.bool false),(139,[Y,.int .i64 14,.str [99]],.bool false),(139,[Y,.int .i64 15,.str [99]],.bool false),(139,[Y,.int .i64 16,.str [99]],.bool true),(139,[Y,.int .i64 17,.str [99]],.bool false),(139,[Y,.int .i64 18,.str [99]],.bool false),(139,[Y,.int .i64 19,.str [99]],.bool false),(139,[Y,.int .i64 20,.str [99]],.bool false),(139,[Y,.int .i64 21,.str [99]],.bool false),(139,[Y,.int .i64 22,.str [99]],.bool false),(139,[Y,.int .i64 23,.str [99]],.bool false)]++k3
theorem Fh:Hk.lM k4:=Hk.wD (l:=[(139,[Y,.int .i64 9,.str [99]],.bool false),(139,[Y,.int .i64 10,.str [99]],.bool false),(139,[Y,.int .i64 11,.str [99]],.bool false),(139,[Y,.int .i64 12,.str [99]],.bool false),(139,[Y,.int .i64 13,.str [99]],.bool false),(139,[Y,.int .i64 14,.str [99]],.bool false),(139,[Y,.int .i64 15,.str [99]],.bool false),(139,[Y,.int .i64 16,.str [99]],.bool true),(139,[Y,.int .i64 17,.str [99]],.bool false),(139,[Y,.int .i64 18,.str [99]],.bool false),(139,[Y,.int .i64 19,.str [99]],.bool false),(139,[Y,.int .i64 20,.str [99]],.bool false),(139,[Y,.int .i64 21,.str [99]],.bool false),(139,[Y,.int .i64 22,.str [99]],.bool false),(139,[Y,.int .i64 23,.str [99]],.bool false)]) ⟨z0,z1,z2,z3,z4,z5,z6,z7,z8,z9,z10,z11,z12,z13,z14,trivial⟩ jJ
end jP
end Go.ak
