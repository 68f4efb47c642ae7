import Derived.Test.YtgpphcmkjhklgaaGreatDoorRows
import Derived.JoinedCond
/- Parts of a proof. -/
set_option linter.unusedSimpArgs false
set_option linter.unusedVariables false
set_option linter.unusedSectionVars false
open Go.Proofs.Tryz
namespace Go.ag
open Go.Proofs Go.Proofs.YtgpphcmkjhklgaaGreatDoor
set_option maxRecDepth 100000
theorem vH:laidOutB prog=true:=by kernel_rfl
theorem vF:mapsRowed prog=true:=by kernel_rfl
theorem vA:prog.stops=[]:=by kernel_rfl
theorem xS:prog.stopKnobs=[]:=by kernel_rfl
theorem xT:prog.plainKeys=Rows.tableChecksUptoRow.plainKeys:=by kernel_rfl
theorem xK:prog.stopsHeard=true:=by kernel_rfl
theorem xX:prog.mayEnter=true:=by kernel_rfl
theorem vC:prog.liftsFinal=Rows.tableChecksUptoRow.lifted:=by kernel_rfl
theorem vG:prog.make=some Rows.tableChecksUptoRow.make:=by kernel_rfl
end Go.ag
