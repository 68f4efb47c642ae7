import Derived.Test.YthmfmhbicipdmaaGreatDoorPM
/- Parts of a proof. -/
set_option linter.unusedSimpArgs false
set_option linter.unusedVariables false
set_option linter.unusedSectionVars false
open Go.Proofs.Tryz
namespace Go.ah
open Go.Proofs
set_option maxRecDepth 100000
namespace jC
theorem w0:ar prog 79 [Y,.st 90 [.str [97],.int .i64 0,.str [48],.str [49,47,50,48]]] (WR):=Hk.cS k2 dZ (by kernel_rfl)
end jC
end Go.ah
