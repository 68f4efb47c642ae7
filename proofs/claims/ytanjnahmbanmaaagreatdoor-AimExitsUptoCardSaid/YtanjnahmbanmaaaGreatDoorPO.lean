import Derived.Test.YtanjnahmbanmaaaGreatDoorPK
/- Parts of a proof. -/
set_option linter.unusedSimpArgs false
set_option linter.unusedVariables false
set_option linter.unusedSectionVars false
open Go.Proofs.Tryz
namespace Go.az
open Go.Proofs
set_option maxRecDepth 100000
namespace jc
theorem w1:au prog 160 [Y,.st 160 [.str [99],.int .i64 1,.str [57,47,50,48],.str [49,49,47,50,48]]] (WR):=Hk.cC k2 dV (by kernel_rfl)
end jc
end Go.az
