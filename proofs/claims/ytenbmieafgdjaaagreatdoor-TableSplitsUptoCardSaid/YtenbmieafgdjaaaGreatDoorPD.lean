import Derived.Test.YtenbmieafgdjaaaGreatDoorRows
import Derived.JoinedCond
/- Parts of a proof. -/
set_option linter.unusedSimpArgs false
set_option linter.unusedVariables false
set_option linter.unusedSectionVars false
open Go.Proofs.Tryz
namespace Go.au
open Go.Proofs Go.Proofs.YtenbmieafgdjaaaGreatDoor
set_option maxRecDepth 100000
theorem FY:laidOutB prog=true:=by kernel_rfl
theorem FW:mapsRowed prog=true:=by kernel_rfl
theorem FQ:prog.stops=[]:=by kernel_rfl
theorem Lm:prog.stopKnobs=[]:=by kernel_rfl
theorem Ln:prog.plainKeys=Rows.tableRacksUptoRow.plainKeys:=by kernel_rfl
theorem K1:prog.stopsHeard=true:=by kernel_rfl
theorem ME:prog.mayEnter=true:=by kernel_rfl
theorem FT:prog.liftsFinal=Rows.tableRacksUptoRow.lifted:=by kernel_rfl
theorem FX:prog.make=some Rows.tableRacksUptoRow.make:=by kernel_rfl
end Go.au
