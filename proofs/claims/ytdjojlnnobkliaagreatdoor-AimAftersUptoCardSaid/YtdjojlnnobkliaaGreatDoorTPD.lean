import Derived.Test.YtdjojlnnobkliaaGreatDoorTZ
import Derived.Test.YtdjojlnnobkliaaGreatDoorRows
import Derived.JoinedCond
/- Parts of a proof. -/
set_option maxRecDepth 100000
set_option linter.unusedSimpArgs false
set_option linter.unusedVariables false
set_option linter.unusedSectionVars false
open Go.Proofs.Tryz
namespace Go.ag
open Go.Proofs Go.Proofs.YtdjojlnnobkliaaGreatDoor
theorem aPP:laidOutB prog=true:=k_
theorem aPV:mapsRowed prog=true:=k_
theorem aP2:prog.stops=[]:=k_
theorem YM:prog.stopKnobs=[]:=k_
theorem YN:prog.plainKeys=Rows.aimPlansUptoRow.plainKeys:=k_
theorem X0:prog.stopsHeard=true:=k_
theorem Y7:prog.mayEnter=true:=k_
theorem aPR:prog.liftsFinal=Rows.aimPlansUptoRow.lifted:=k_
theorem aPU:prog.make=some Rows.aimPlansUptoRow.make:=k_
end Go.ag
