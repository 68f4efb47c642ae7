import Derived.Test.YtanjnahmbanmaaaGreatDoorPI
/- Parts of a proof. -/
set_option linter.unusedSimpArgs false
set_option linter.unusedVariables false
set_option linter.unusedSectionVars false
namespace Go.Abs
open Go.Proofs
set_option maxRecDepth 100000
namespace Aw4
theorem w1:aab Tryz.prog 160 [Y,.st 160 [.str [99],.int .i64 1,.str [57,47,50,48],.str [49,49,47,50,48]]] (WR):=Hk.aau k2 abv (by kernel_rfl)
end Aw4
end Go.Abs
