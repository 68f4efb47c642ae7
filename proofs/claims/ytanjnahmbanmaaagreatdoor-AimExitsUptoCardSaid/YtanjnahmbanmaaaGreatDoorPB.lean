import Derived.Test.YtanjnahmbanmaaaGreatDoorRows
import Derived.Deep.DeepHandedRow
import Derived.Deep.DeepWitnessRowRef
import Derived.Lib.LaidIn
import Derived.Lib.LaidTab
import Derived.ProofKit
import Derived.OpenShut
/- Parts of a proof. -/
set_option linter.unusedSimpArgs false
set_option linter.unusedVariables false
set_option linter.unusedSectionVars false
open Go.Proofs.Tryz
namespace Go.az
open Go.Proofs Go.Proofs.YtanjnahmbanmaaaGreatDoor
def aE1:DataW Unit->Value
 | .lit (.int k n)=>.int k n
 |_=>.bool false
def Fw:DataW Unit->List (DataW Unit)
 | .agg l=>l
 |_=>[]
def ni(d:DataW Unit):List Value:=(Fw d).map aE1
def Xb(d:DataW Unit):List Value:=(Fw d).flatMap ni
def Gn:DataW Unit->List UInt8
 | .iface _ (.ptr (.agg [.lit (.string b)]))=>b
 |_=>[]
def qY(h:Array Go.Obj)(g:Nat)(cs:Array Value):Array Go.Obj:=h.modify g fun
 | .cells _ t frozen=>Go.Obj.cells cs t frozen
 |o=>o
noncomputable def wO(os:Os):World:=
 let N:=(World.settled prog os).heap.size
 let w0:=World.holding prog os ⟨#[.cells #[.string ⟨(Gn Rows.laid_strconv_ErrRange).toArray⟩] 436,.cells #[.string ⟨(Gn Rows.laid_strconv_ErrSyntax).toArray⟩] 436],#[],[]⟩
 let a:=qY w0.heap 5 #[.iface 434 (.pointer (some ⟨N,0,none⟩))]
 let b:=qY a 4 #[.iface 434 (.pointer (some ⟨N+1,0,none⟩))]
 let c:=qY b 6 (ni Rows.laid_math_bits_deBruijn32tab).toArray
 let d:=qY c 7 (ni Rows.laid_math_bits_deBruijn64tab).toArray
 let e:=qY d 3 (ni Rows.laid_internal_strconv_uint64pow10).toArray
 let f:=qY e 9 (Xb Rows.laid_unicode_utf8_acceptRanges).toArray
 let g:=qY f 8 (ni Rows.laid_unicode_utf8_first).toArray
 {w0 with heap:=g}
noncomputable abbrev yt:Nat:=(World.settled prog default).heap.size
set_option maxRecDepth 1000000 in
theorem aEP(os:Os)(args:Array Value):LaidIn prog ((wO os).forCall (fun _ _=>0) ⟨#[],args,[]⟩).memory Rows.aimContactsUptoRow.laid [6,7,3,9,5,yt,4,yt+1,8]:=
 LaidIn.of_run [6,7,3,9,5,yt,4,yt+1,8] 8 (by kernel_rfl) (by kernel_rfl) (by kernel_rfl) (by kernel_rfl)
theorem Vd(os:Os)(args:Array Value):laidMet prog Rows.aimContactsUptoRow.laid ((wO os).forCall (fun _ _=>0) ⟨#[],args,[]⟩).memory:=(aEP os args).met
end Go.az
