import Derived.Test.YtenbmieafgdjaaaGreatDoorRows
import Derived.JoinedCond
/- Parts of a proof. -/
set_option linter.unusedSimpArgs false
set_option linter.unusedVariables false
set_option linter.unusedSectionVars false
open Go.Proofs.Tryz
namespace Go.aj
open Go.Proofs Go.Proofs.YtenbmieafgdjaaaGreatDoor
set_option maxRecDepth 100000
theorem E7:laidOutB prog=true:=by kernel_rfl
theorem E5:mapsRowed prog=true:=by kernel_rfl
theorem EY:prog.stops=[]:=by kernel_rfl
theorem Kg:prog.stopKnobs=[]:=by kernel_rfl
theorem Kh:prog.plainKeys=Rows.tableRacksUptoRow.plainKeys:=by kernel_rfl
theorem JW:prog.stopsHeard=true:=by kernel_rfl
theorem Lz:prog.mayEnter=true:=by kernel_rfl
theorem E0:prog.liftsFinal=Rows.tableRacksUptoRow.lifted:=by kernel_rfl
theorem E6:prog.make=some Rows.tableRacksUptoRow.make:=by kernel_rfl
end Go.aj
