import Derived.Test.YtgpphcmkjhklgaaGreatDoorRows
import Derived.JoinedCond
/- Parts of a proof. -/
set_option linter.unusedSimpArgs false
set_option linter.unusedVariables false
set_option linter.unusedSectionVars false
open Go.Proofs.Tryz
namespace Go.al
open Go.Proofs Go.Proofs.YtgpphcmkjhklgaaGreatDoor
set_option maxRecDepth 100000
theorem aAt:laidOutB prog=true:=by kernel_rfl
theorem aAB:mapsRowed prog=true:=by kernel_rfl
theorem aAI:prog.stops=[]:=by kernel_rfl
theorem Sf:prog.stopKnobs=[]:=by kernel_rfl
theorem Sg:prog.plainKeys=Rows.tableChecksUptoRow.plainKeys:=by kernel_rfl
theorem Rq:prog.stopsHeard=true:=by kernel_rfl
theorem SB:prog.mayEnter=true:=by kernel_rfl
theorem aAv:prog.liftsFinal=Rows.tableChecksUptoRow.lifted:=by kernel_rfl
theorem aAy:prog.make=some Rows.tableChecksUptoRow.make:=by kernel_rfl
end Go.al
