import Derived.Test.YtenbmieafgdjaaaGreatDoorRows
import Derived.Deep.DeepHandedRow
import Derived.Deep.DeepWitnessRowRef
import Derived.Lib.LaidIn
import Derived.Lib.LaidTab
import Derived.ProofKit
import Derived.OpenShut
/- Parts of a proof. -/
set_option linter.unusedSimpArgs false
set_option linter.unusedVariables false
set_option linter.unusedSectionVars false
open Go.Proofs.Tryz
namespace Go.au
open Go.Proofs Go.Proofs.YtenbmieafgdjaaaGreatDoor
def aGu:DataW Unit->Value
 | .lit (.int k n)=>.int k n
 |_=>.bool false
def Ja:DataW Unit->List (DataW Unit)
 | .agg l=>l
 |_=>[]
def n8(d:DataW Unit):List Value:=(Ja d).map aGu
def ZV(d:DataW Unit):List Value:=(Ja d).flatMap n8
def JZ:DataW Unit->List UInt8
 | .iface _ (.ptr (.agg [.lit (.string b)]))=>b
 |_=>[]
def sK(h:Array Go.Obj)(g:Nat)(cs:Array Value):Array Go.Obj:=h.modify g fun
 | .cells _ t frozen=>Go.Obj.cells cs t frozen
 |o=>o
noncomputable def tU(os:Os):World:=
 let N:=(World.settled prog os).heap.size
 let a:=World.holding prog os ⟨#[.cells #[.string ⟨(JZ Rows.laid_strconv_ErrRange).toArray⟩] 419,.cells #[.string ⟨(JZ Rows.laid_strconv_ErrSyntax).toArray⟩] 419],#[],[]⟩
 let b:=sK a.heap 5 #[.iface 417 (.pointer (some ⟨N,0,none⟩))]
 let c:=sK b 4 #[.iface 417 (.pointer (some ⟨N+1,0,none⟩))]
 let d:=sK c 6 (n8 Rows.laid_math_bits_deBruijn32tab).toArray
 let e:=sK d 7 (n8 Rows.laid_math_bits_deBruijn64tab).toArray
 let f:=sK e 1 (n8 Rows.laid_internal_strconv_uint64pow10).toArray
 let g:=sK f 9 (ZV Rows.laid_unicode_utf8_acceptRanges).toArray
 let h:=sK g 8 (n8 Rows.laid_unicode_utf8_first).toArray
 {a with heap:=h}
noncomputable abbrev Am:Nat:=(World.settled prog default).heap.size
set_option maxRecDepth 1000000 in
theorem aE3(os:Os)(args:Array Value):LaidIn prog ((tU os).forCall (fun _ _=>0) ⟨#[],args,[]⟩).memory Rows.tableRacksUptoRow.laid [6,7,1,9,5,Am,4,Am+1,8]:=
 LaidIn.of_run [6,7,1,9,5,Am,4,Am+1,8] 8 (by kernel_rfl) (by kernel_rfl) (by kernel_rfl) (by kernel_rfl)
theorem Og(os:Os)(args:Array Value):laidMet prog Rows.tableRacksUptoRow.laid ((tU os).forCall (fun _ _=>0) ⟨#[],args,[]⟩).memory:=(aE3 os args).met
end Go.au
