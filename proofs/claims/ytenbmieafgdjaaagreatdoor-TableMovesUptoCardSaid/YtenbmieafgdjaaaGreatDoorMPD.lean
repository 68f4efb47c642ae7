import Derived.Test.YtenbmieafgdjaaaGreatDoorRows
import Derived.JoinedCond
/- Parts of a proof. -/
set_option linter.unusedSimpArgs false
set_option linter.unusedVariables false
set_option linter.unusedSectionVars false
open Go.Proofs.Tryz
namespace Go.al
open Go.Proofs Go.Proofs.YtenbmieafgdjaaaGreatDoor
set_option maxRecDepth 100000
theorem aAx:laidOutB prog=true:=by kernel_rfl
theorem aAD:mapsRowed prog=true:=by kernel_rfl
theorem aAK:prog.stops=[]:=by kernel_rfl
theorem SW:prog.stopKnobs=[]:=by kernel_rfl
theorem SX:prog.plainKeys=Rows.tableRacksUptoRow.plainKeys:=by kernel_rfl
theorem Sa:prog.stopsHeard=true:=by kernel_rfl
theorem Tj:prog.mayEnter=true:=by kernel_rfl
theorem aAz:prog.liftsFinal=Rows.tableRacksUptoRow.lifted:=by kernel_rfl
theorem aAC:prog.make=some Rows.tableRacksUptoRow.make:=by kernel_rfl
end Go.al
