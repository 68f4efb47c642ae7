import Derived.Test.YtdjojlnnobkliaaGreatDoorSZ
import Derived.Test.YtdjojlnnobkliaaGreatDoorRows
import Derived.JoinedCond
/- Parts of a proof. -/
set_option maxRecDepth 100000
set_option linter.unusedSimpArgs false
set_option linter.unusedVariables false
set_option linter.unusedSectionVars false
open Go.Proofs.Tryz
namespace Go.aq
open Go.Proofs Go.Proofs.YtdjojlnnobkliaaGreatDoor
theorem aG6:laidOutB prog=true:=k_
theorem aHd:mapsRowed prog=true:=k_
theorem aHl:prog.stops=[]:=k_
theorem Vq:prog.stopKnobs=[]:=k_
theorem Vr:prog.plainKeys=Rows.aimPlansUptoRow.plainKeys:=k_
theorem UF:prog.stopsHeard=true:=k_
theorem VL:prog.mayEnter=true:=k_
theorem aG8:prog.liftsFinal=Rows.aimPlansUptoRow.lifted:=k_
theorem aHc:prog.make=some Rows.aimPlansUptoRow.make:=k_
end Go.aq
