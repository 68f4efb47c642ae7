import Derived.Test.YtfdgnogcckoalaaGreatDoorKZ
import Derived.Test.YtfdgnogcckoalaaGreatDoorRows
import Derived.JoinedCond
/- Parts of a proof. -/
set_option maxRecDepth 100000
set_option linter.unusedSimpArgs false
set_option linter.unusedVariables false
set_option linter.unusedSectionVars false
open Go.Proofs.Tryz
namespace Go.an
open Go.Proofs Go.Proofs.YtfdgnogcckoalaaGreatDoor
theorem aPs:laidOutB prog=true:=k_
theorem aPy:mapsRowed prog=true:=k_
theorem aPF:prog.stops=[]:=k_
theorem YN:prog.stopKnobs=[]:=k_
theorem YO:prog.plainKeys=Rows.tableKeepsUptoRow.plainKeys:=k_
theorem X1:prog.stopsHeard=true:=k_
theorem Y8:prog.mayEnter=true:=k_
theorem aPu:prog.liftsFinal=Rows.tableKeepsUptoRow.lifted:=k_
theorem aPx:prog.make=some Rows.tableKeepsUptoRow.make:=k_
end Go.an
