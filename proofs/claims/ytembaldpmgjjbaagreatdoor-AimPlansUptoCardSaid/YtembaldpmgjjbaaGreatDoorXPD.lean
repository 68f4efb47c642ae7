import Derived.Test.YtembaldpmgjjbaaGreatDoorXZ
import Derived.Test.YtembaldpmgjjbaaGreatDoorRows
import Derived.JoinedCond
/- Parts of a proof. -/
set_option maxRecDepth 100000
set_option linter.unusedSimpArgs false
set_option linter.unusedVariables false
set_option linter.unusedSectionVars false
open Go.Proofs.Tryz
namespace Go.ae
open Go.Proofs Go.Proofs.YtembaldpmgjjbaaGreatDoor
theorem aPb:laidOutB prog=true:=k_
theorem aPf:mapsRowed prog=true:=k_
theorem aPi:prog.stops=[]:=k_
theorem anh:prog.stopKnobs=[]:=k_
theorem ani:prog.plainKeys=Rows.aimPlansUptoRow.plainKeys:=k_
theorem ZV:prog.stopsHeard=true:=k_
theorem aqC:prog.mayEnter=true:=k_
theorem aPc:prog.liftsFinal=Rows.aimPlansUptoRow.lifted:=k_
theorem aPe:prog.make=some Rows.aimPlansUptoRow.make:=k_
end Go.ae
