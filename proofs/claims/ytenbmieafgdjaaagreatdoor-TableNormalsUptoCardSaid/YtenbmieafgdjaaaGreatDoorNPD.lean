import Derived.Test.YtenbmieafgdjaaaGreatDoorRows
import Derived.JoinedCond
/- Parts of a proof. -/
set_option linter.unusedSimpArgs false
set_option linter.unusedVariables false
set_option linter.unusedSectionVars false
open Go.Proofs.Tryz
namespace Go.au
open Go.Proofs Go.Proofs.YtenbmieafgdjaaaGreatDoor
set_option maxRecDepth 100000
theorem azW:laidOutB prog=true:=by kernel_rfl
theorem az2:mapsRowed prog=true:=by kernel_rfl
theorem az9:prog.stops=[]:=by kernel_rfl
theorem Sa:prog.stopKnobs=[]:=by kernel_rfl
theorem Sb:prog.plainKeys=Rows.tableRacksUptoRow.plainKeys:=by kernel_rfl
theorem Rl:prog.stopsHeard=true:=by kernel_rfl
theorem Sw:prog.mayEnter=true:=by kernel_rfl
theorem azY:prog.liftsFinal=Rows.tableRacksUptoRow.lifted:=by kernel_rfl
theorem az1:prog.make=some Rows.tableRacksUptoRow.make:=by kernel_rfl
end Go.au
