import Derived.Test.YthmfmhbicipdmaaGreatDoorRows
import Derived.JoinedCond
/- Parts of a proof. -/
set_option linter.unusedSimpArgs false
set_option linter.unusedVariables false
set_option linter.unusedSectionVars false
open Go.Proofs.Tryz
namespace Go.ah
open Go.Proofs Go.Proofs.YthmfmhbicipdmaaGreatDoor
set_option maxRecDepth 100000
theorem FQ:laidOutB prog=true:=by kernel_rfl
theorem FO:mapsRowed prog=true:=by kernel_rfl
theorem FJ:prog.stops=[]:=by kernel_rfl
theorem LD:prog.stopKnobs=[]:=by kernel_rfl
theorem LF:prog.plainKeys=Rows.aimHidesUptoRow.plainKeys:=by kernel_rfl
theorem Li:prog.stopsHeard=true:=by kernel_rfl
theorem M5:prog.mayEnter=true:=by kernel_rfl
theorem FL:prog.liftsFinal=Rows.aimHidesUptoRow.lifted:=by kernel_rfl
theorem FP:prog.make=some Rows.aimHidesUptoRow.make:=by kernel_rfl
end Go.ah
