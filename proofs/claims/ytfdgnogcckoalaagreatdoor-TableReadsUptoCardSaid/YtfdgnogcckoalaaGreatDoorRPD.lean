import Derived.Test.YtfdgnogcckoalaaGreatDoorRZ
import Derived.Test.YtfdgnogcckoalaaGreatDoorRows
import Derived.JoinedCond
/- Parts of a proof. -/
set_option maxRecDepth 100000
set_option linter.unusedSimpArgs false
set_option linter.unusedVariables false
set_option linter.unusedSectionVars false
open Go.Proofs.Tryz
namespace Go.au
open Go.Proofs Go.Proofs.YtfdgnogcckoalaaGreatDoor
theorem Gg:laidOutB prog=true:=k_
theorem Ge:mapsRowed prog=true:=k_
theorem F9:prog.stops=[]:=k_
theorem LY:prog.stopKnobs=[]:=k_
theorem LZ:prog.plainKeys=Rows.tableKeepsUptoRow.plainKeys:=k_
theorem LD:prog.stopsHeard=true:=k_
theorem Nk:prog.mayEnter=true:=k_
theorem Gb:prog.liftsFinal=Rows.tableKeepsUptoRow.lifted:=k_
theorem Gf:prog.make=some Rows.tableKeepsUptoRow.make:=k_
end Go.au
