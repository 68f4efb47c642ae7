import Derived.Test.YtfdgnogcckoalaaGreatDoorXZ
import Derived.Test.YtfdgnogcckoalaaGreatDoorRows
import Derived.JoinedCond
/- Parts of a proof. -/
set_option maxRecDepth 100000
set_option linter.unusedSimpArgs false
set_option linter.unusedVariables false
set_option linter.unusedSectionVars false
open Go.Proofs.Tryz
namespace Go.aw
open Go.Proofs Go.Proofs.YtfdgnogcckoalaaGreatDoor
theorem aAF:laidOutB prog=true:=k_
theorem aAO:mapsRowed prog=true:=k_
theorem aAV:prog.stops=[]:=k_
theorem SU:prog.stopKnobs=[]:=k_
theorem SV:prog.plainKeys=Rows.tableKeepsUptoRow.plainKeys:=k_
theorem R8:prog.stopsHeard=true:=k_
theorem Tf:prog.mayEnter=true:=k_
theorem aAK:prog.liftsFinal=Rows.tableKeepsUptoRow.lifted:=k_
theorem aAN:prog.make=some Rows.tableKeepsUptoRow.make:=k_
end Go.aw
