import Derived.Test.YthckccalfpnmaaaGreatDoorPF
/- Parts of a proof. -/
set_option linter.unusedSimpArgs false
set_option linter.unusedVariables false
set_option linter.unusedSectionVars false
namespace Go.Abs
open Go.Proofs
set_option maxRecDepth 100000
theorem c_awake:GoodC Tryz.prog 17 [] (.bool true):=run0_ok (facts:=knownF Awk.facts) (knownF_ok Awk.facts_ok) (isT_eq (by kernel_rfl))
end Go.Abs
