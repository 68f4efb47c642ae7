import Derived.Test.YtanjnahmbanmaaaGreatDoorRows
import Derived.Deep.DeepHandedRow
import Derived.Deep.DeepWitnessRowRef
import Derived.Lib.LaidIn
import Derived.Lib.LaidTab
import Derived.ProofKit
import Derived.OpenShut
/- Parts of a proof. -/
set_option linter.unusedSimpArgs false
set_option linter.unusedVariables false
set_option linter.unusedSectionVars false
namespace Go.Abs
open Go.Proofs Go.Proofs.YtanjnahmbanmaaaGreatDoor
def litV:DataW Unit→Value
 | .lit (.int k n)=>.int k n
 | _=>.bool false
def aggL:DataW Unit→List (DataW Unit)
 | .agg l=>l
 | _=>[]
def afK (d:DataW Unit):List Value:=(aggL d).map litV
def cells2 (d:DataW Unit):List Value:=(aggL d).flatMap afK
def ajP:DataW Unit→List UInt8
 | .iface _ (.ptr (.agg [.lit (.string b)]))=>b
 | _=>[]
def putG (h:Array Go.Obj) (g:Nat) (cs:Array Value):Array Go.Obj:=h.modify g fun
 | .cells _ t frozen=>Go.Obj.cells cs t frozen
 | o=>o
noncomputable def afB (os:Os):World :=
 let N:=(World.settled Tryz.prog os).heap.size
 let w0:=World.holding Tryz.prog os ⟨#[.cells #[.string ⟨(ajP Rows.laid_strconv_ErrRange).toArray⟩] 436,.cells #[.string ⟨(ajP Rows.laid_strconv_ErrSyntax).toArray⟩] 436],#[],[]⟩
 let h0:=putG w0.heap 5 #[.iface 434 (.pointer (some ⟨N,0,none⟩))]
 let h1:=putG h0 4 #[.iface 434 (.pointer (some ⟨N+1,0,none⟩))]
 let h2:=putG h1 6 (afK Rows.laid_math_bits_deBruijn32tab).toArray
 let h3:=putG h2 7 (afK Rows.laid_math_bits_deBruijn64tab).toArray
 let h4:=putG h3 3 (afK Rows.laid_internal_strconv_uint64pow10).toArray
 let h5:=putG h4 9 (cells2 Rows.laid_unicode_utf8_acceptRanges).toArray
 let h6:=putG h5 8 (afK Rows.laid_unicode_utf8_first).toArray
 { w0 with heap:=h6 }
noncomputable abbrev avV:Nat:=(World.settled Tryz.prog default).heap.size
set_option maxRecDepth 1000000 in
theorem laid_in (os:Os) (args:Array Value):LaidIn Tryz.prog ((afB os).forCall (fun _ _=>0) ⟨#[],args,[]⟩).memory Rows.aimContactsUptoRow.laid [6,7,3,9,5,avV,4,avV+1,8] :=
 LaidIn.of_run [6,7,3,9,5,avV,4,avV+1,8] 8 (by kernel_rfl) (by kernel_rfl) (by kernel_rfl) (by kernel_rfl)
theorem avU (os:Os) (args:Array Value):laidMet Tryz.prog Rows.aimContactsUptoRow.laid ((afB os).forCall (fun _ _=>0) ⟨#[],args,[]⟩).memory:=(laid_in os args).met
end Go.Abs
