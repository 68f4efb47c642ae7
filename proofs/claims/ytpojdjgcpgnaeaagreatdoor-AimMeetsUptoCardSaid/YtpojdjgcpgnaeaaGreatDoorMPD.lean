import Derived.Test.YtpojdjgcpgnaeaaGreatDoorMZ
import Derived.Test.YtpojdjgcpgnaeaaGreatDoorRows
import Derived.JoinedCond
/- Parts of a proof. -/
set_option maxRecDepth 100000
set_option linter.unusedSimpArgs false
set_option linter.unusedVariables false
set_option linter.unusedSectionVars false
open Go.Proofs.Tryz
namespace Go.az
open Go.Proofs Go.Proofs.YtpojdjgcpgnaeaaGreatDoor
theorem aCs:laidOutB prog=true:=k_
theorem aCX:mapsRowed prog=true:=k_
theorem aDn:prog.stops=[]:=k_
theorem Wh:prog.stopKnobs=[]:=k_
theorem Wi:prog.plainKeys=Rows.aimMeetsUptoRow.plainKeys:=k_
theorem VH:prog.stopsHeard=true:=k_
theorem WA:prog.mayEnter=true:=k_
theorem aCu:prog.liftsFinal=Rows.aimMeetsUptoRow.lifted:=k_
theorem aCW:prog.make=some Rows.aimMeetsUptoRow.make:=k_
end Go.az
