import Derived.Test.YthmfmhbicipdmaaGreatDoorRows
import Derived.JoinedCond
/- Parts of a proof. -/
set_option linter.unusedSimpArgs false
set_option linter.unusedVariables false
set_option linter.unusedSectionVars false
open Go.Proofs.Tryz
namespace Go.ak
open Go.Proofs Go.Proofs.YthmfmhbicipdmaaGreatDoor
set_option maxRecDepth 100000
theorem aKn:laidOutB prog=true:=by kernel_rfl
theorem aKt:mapsRowed prog=true:=by kernel_rfl
theorem aKA:prog.stops=[]:=by kernel_rfl
theorem VI:prog.stopKnobs=[]:=by kernel_rfl
theorem VJ:prog.plainKeys=Rows.aimFirstsUptoRow.plainKeys:=by kernel_rfl
theorem UY:prog.stopsHeard=true:=by kernel_rfl
theorem V4:prog.mayEnter=true:=by kernel_rfl
theorem aKp:prog.liftsFinal=Rows.aimFirstsUptoRow.lifted:=by kernel_rfl
theorem aKs:prog.make=some Rows.aimFirstsUptoRow.make:=by kernel_rfl
end Go.ak
