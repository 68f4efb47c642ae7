import Derived.Test.YtgpphcmkjhklgaaGreatDoorRows
import Derived.JoinedCond
/- Parts of a proof. -/
set_option linter.unusedSimpArgs false
set_option linter.unusedVariables false
set_option linter.unusedSectionVars false
open Go.Proofs.Tryz
namespace Go.aw
open Go.Proofs Go.Proofs.YtgpphcmkjhklgaaGreatDoor
set_option maxRecDepth 100000
theorem azS:laidOutB prog=true:=by kernel_rfl
theorem az0:mapsRowed prog=true:=by kernel_rfl
theorem az7:prog.stops=[]:=by kernel_rfl
theorem Sa:prog.stopKnobs=[]:=by kernel_rfl
theorem Sb:prog.plainKeys=Rows.tableChecksUptoRow.plainKeys:=by kernel_rfl
theorem Rl:prog.stopsHeard=true:=by kernel_rfl
theorem Sw:prog.mayEnter=true:=by kernel_rfl
theorem azW:prog.liftsFinal=Rows.tableChecksUptoRow.lifted:=by kernel_rfl
theorem azZ:prog.make=some Rows.tableChecksUptoRow.make:=by kernel_rfl
end Go.aw
