import Derived.Test.YtanjnahmbanmaaaGreatDoorRows
import Derived.Deep.DeepHandedRow
import Derived.Deep.DeepWitnessRowRef
import Derived.Lib.LaidIn
import Derived.Lib.LaidTab
import Derived.ProofKit
import Derived.OpenShut
/- Parts of a proof. -/
set_option linter.unusedSimpArgs false
set_option linter.unusedVariables false
set_option linter.unusedSectionVars false
open Go.Proofs.Tryz
namespace Go.ak
open Go.Proofs Go.Proofs.YtanjnahmbanmaaaGreatDoor
def aG9:DataW Unit->Value
 | .lit (.int k n)=>.int k n
 |_=>.bool false
def GL:DataW Unit->List (DataW Unit)
 | .agg l=>l
 |_=>[]
def nG(d:DataW Unit):List Value:=(GL d).map aG9
def YY(d:DataW Unit):List Value:=(GL d).flatMap nG
def HI:DataW Unit->List UInt8
 | .iface _ (.ptr (.agg [.lit (.string b)]))=>b
 |_=>[]
def rI(h:Array Go.Obj)(g:Nat)(cs:Array Value):Array Go.Obj:=h.modify g fun
 | .cells _ t frozen=>Go.Obj.cells cs t frozen
 |o=>o
noncomputable def xu(os:Os):World:=
 let N:=(World.settled prog os).heap.size
 let w0:=World.holding prog os ⟨#[.cells #[.string ⟨(HI Rows.laid_strconv_ErrRange).toArray⟩] 436,.cells #[.string ⟨(HI Rows.laid_strconv_ErrSyntax).toArray⟩] 436],#[],[]⟩
 let a:=rI w0.heap 5 #[.iface 434 (.pointer (some ⟨N,0,none⟩))]
 let b:=rI a 4 #[.iface 434 (.pointer (some ⟨N+1,0,none⟩))]
 let c:=rI b 6 (nG Rows.laid_math_bits_deBruijn32tab).toArray
 let d:=rI c 7 (nG Rows.laid_math_bits_deBruijn64tab).toArray
 let e:=rI d 3 (nG Rows.laid_internal_strconv_uint64pow10).toArray
 let f:=rI e 9 (YY Rows.laid_unicode_utf8_acceptRanges).toArray
 let g:=rI f 8 (nG Rows.laid_unicode_utf8_first).toArray
 {w0 with heap:=g}
noncomputable abbrev zb:Nat:=(World.settled prog default).heap.size
set_option maxRecDepth 1000000 in
theorem aGX(os:Os)(args:Array Value):LaidIn prog ((xu os).forCall (fun _ _=>0) ⟨#[],args,[]⟩).memory Rows.aimContactsUptoRow.laid [6,7,3,9,5,zb,4,zb+1,8]:=
 LaidIn.of_run [6,7,3,9,5,zb,4,zb+1,8] 8 (by kernel_rfl) (by kernel_rfl) (by kernel_rfl) (by kernel_rfl)
theorem WU(os:Os)(args:Array Value):laidMet prog Rows.aimContactsUptoRow.laid ((xu os).forCall (fun _ _=>0) ⟨#[],args,[]⟩).memory:=(aGX os args).met
end Go.ak
