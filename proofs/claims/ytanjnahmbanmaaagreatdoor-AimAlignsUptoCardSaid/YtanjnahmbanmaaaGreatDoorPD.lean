import Derived.Test.YtanjnahmbanmaaaGreatDoorRows
import Derived.JoinedCond
/- Parts of a proof. -/
set_option linter.unusedSimpArgs false
set_option linter.unusedVariables false
set_option linter.unusedSectionVars false
namespace Go.Abs
open Go.Proofs Go.Proofs.YtanjnahmbanmaaaGreatDoor
set_option maxRecDepth 100000
theorem aAU:laidOutB Tryz.prog=true:=by kernel_rfl
theorem aAS:mapsRowed Tryz.prog=true:=by kernel_rfl
theorem aAL:Tryz.prog.stops=[]:=by kernel_rfl
theorem anh:Tryz.prog.stopKnobs=[]:=by kernel_rfl
theorem ani:Tryz.prog.plainKeys=Rows.aimContactsUptoRow.plainKeys:=by kernel_rfl
theorem alv:Tryz.prog.stopsHeard=true:=by kernel_rfl
theorem aqC:Tryz.prog.mayEnter=true:=by kernel_rfl
theorem aAN:Tryz.prog.liftsFinal=Rows.aimContactsUptoRow.lifted:=by kernel_rfl
theorem aAT:Tryz.prog.make=some Rows.aimContactsUptoRow.make:=by kernel_rfl
end Go.Abs
