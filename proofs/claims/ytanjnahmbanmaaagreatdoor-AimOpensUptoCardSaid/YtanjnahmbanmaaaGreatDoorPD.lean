import Derived.Test.YtanjnahmbanmaaaGreatDoorRows
import Derived.JoinedCond
/- Parts of a proof. -/
set_option linter.unusedSimpArgs false
set_option linter.unusedVariables false
set_option linter.unusedSectionVars false
open Go.Proofs.Tryz
namespace Go.ak
open Go.Proofs Go.Proofs.YtanjnahmbanmaaaGreatDoor
set_option maxRecDepth 100000
theorem aHC:laidOutB prog=true:=by kernel_rfl
theorem aHI:mapsRowed prog=true:=by kernel_rfl
theorem aHP:prog.stops=[]:=by kernel_rfl
theorem TQ:prog.stopKnobs=[]:=by kernel_rfl
theorem TR:prog.plainKeys=Rows.aimContactsUptoRow.plainKeys:=by kernel_rfl
theorem S1:prog.stopsHeard=true:=by kernel_rfl
theorem Ud:prog.mayEnter=true:=by kernel_rfl
theorem aHE:prog.liftsFinal=Rows.aimContactsUptoRow.lifted:=by kernel_rfl
theorem aHH:prog.make=some Rows.aimContactsUptoRow.make:=by kernel_rfl
end Go.ak
