import Derived.Test.YtanjnahmbanmaaaGreatDoorRows
import Derived.JoinedCond
/- Parts of a proof. -/
set_option linter.unusedSimpArgs false
set_option linter.unusedVariables false
set_option linter.unusedSectionVars false
open Go.Proofs.Tryz
namespace Go.az
open Go.Proofs Go.Proofs.YtanjnahmbanmaaaGreatDoor
set_option maxRecDepth 100000
theorem aFu:laidOutB prog=true:=by kernel_rfl
theorem aFA:mapsRowed prog=true:=by kernel_rfl
theorem aFH:prog.stops=[]:=by kernel_rfl
theorem R6:prog.stopKnobs=[]:=by kernel_rfl
theorem R7:prog.plainKeys=Rows.aimContactsUptoRow.plainKeys:=by kernel_rfl
theorem Rh:prog.stopsHeard=true:=by kernel_rfl
theorem Ss:prog.mayEnter=true:=by kernel_rfl
theorem aFw:prog.liftsFinal=Rows.aimContactsUptoRow.lifted:=by kernel_rfl
theorem aFz:prog.make=some Rows.aimContactsUptoRow.make:=by kernel_rfl
end Go.az
