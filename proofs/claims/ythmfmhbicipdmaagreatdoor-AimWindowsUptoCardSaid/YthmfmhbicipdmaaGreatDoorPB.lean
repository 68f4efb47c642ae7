import Derived.Test.YthmfmhbicipdmaaGreatDoorRows
import Derived.Deep.DeepHandedRow
import Derived.Deep.DeepWitnessRowRef
import Derived.Lib.LaidIn
import Derived.Lib.LaidTab
import Derived.ProofKit
import Derived.OpenShut
/- Parts of a proof. -/
set_option linter.unusedSimpArgs false
set_option linter.unusedVariables false
set_option linter.unusedSectionVars false
open Go.Proofs.Tryz
namespace Go.ah
open Go.Proofs Go.Proofs.YthmfmhbicipdmaaGreatDoor
def aJy:DataW Unit->Value
 | .lit (.int k n)=>.int k n
 |_=>.bool false
def Jq:DataW Unit->List (DataW Unit)
 | .agg l=>l
 |_=>[]
def oC(d:DataW Unit):List Value:=(Jq d).map aJy
def axr(d:DataW Unit):List Value:=(Jq d).flatMap oC
def Ke:DataW Unit->List UInt8
 | .iface _ (.ptr (.agg [.lit (.string b)]))=>b
 |_=>[]
def sN(h:Array Go.Obj)(g:Nat)(cs:Array Value):Array Go.Obj:=h.modify g fun
 | .cells _ t frozen=>Go.Obj.cells cs t frozen
 |o=>o
noncomputable def tR(os:Os):World:=
 let N:=(World.settled prog os).heap.size
 let w0:=World.holding prog os ⟨#[.cells #[.string ⟨(Ke Rows.laid_strconv_ErrRange).toArray⟩] 434,.cells #[.string ⟨(Ke Rows.laid_strconv_ErrSyntax).toArray⟩] 434],#[],[]⟩
 let a:=sN w0.heap 5 #[.iface 432 (.pointer (some ⟨N,0,none⟩))]
 let b:=sN a 4 #[.iface 432 (.pointer (some ⟨N+1,0,none⟩))]
 let c:=sN b 6 (oC Rows.laid_math_bits_deBruijn32tab).toArray
 let d:=sN c 7 (oC Rows.laid_math_bits_deBruijn64tab).toArray
 let e:=sN d 3 (oC Rows.laid_internal_strconv_uint64pow10).toArray
 let f:=sN e 9 (axr Rows.laid_unicode_utf8_acceptRanges).toArray
 let g:=sN f 8 (oC Rows.laid_unicode_utf8_first).toArray
 {w0 with heap:=g}
noncomputable abbrev Ai:Nat:=(World.settled prog default).heap.size
set_option maxRecDepth 1000000 in
theorem aJm(os:Os)(args:Array Value):LaidIn prog ((tR os).forCall (fun _ _=>0) ⟨#[],args,[]⟩).memory Rows.aimHidesUptoRow.laid [6,7,3,9,5,Ai,4,Ai+1,8]:=
 LaidIn.of_run [6,7,3,9,5,Ai,4,Ai+1,8] 8 (by kernel_rfl) (by kernel_rfl) (by kernel_rfl) (by kernel_rfl)
theorem OI(os:Os)(args:Array Value):laidMet prog Rows.aimHidesUptoRow.laid ((tR os).forCall (fun _ _=>0) ⟨#[],args,[]⟩).memory:=(aJm os args).met
end Go.ah
