import Derived.Test.YthmfmhbicipdmaaGreatDoorPM
/- Parts of a proof. -/
set_option linter.unusedSimpArgs false
set_option linter.unusedVariables false
set_option linter.unusedSectionVars false
open Go.Proofs.Tryz
namespace Go.ak
open Go.Proofs
set_option maxRecDepth 100000
namespace jP
theorem w1:au prog 79 [Y,.st 90 [.str [99],.int .i64 1,.str [57,47,50,48],.str [49,49,47,50,48]]] (WR):=Hk.cR k2 ez (by kernel_rfl)
end jP
end Go.ak
