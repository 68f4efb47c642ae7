import Derived.Test.YtgpphcmkjhklgaaGreatDoorRows
import Derived.Deep.DeepHandedRow
import Derived.Deep.DeepWitnessRowRef
import Derived.Lib.LaidIn
import Derived.Lib.LaidTab
import Derived.ProofKit
import Derived.OpenShut
/- Parts of a proof. -/
set_option linter.unusedSimpArgs false
set_option linter.unusedVariables false
set_option linter.unusedSectionVars false
open Go.Proofs.Tryz
namespace Go.al
open Go.Proofs Go.Proofs.YtgpphcmkjhklgaaGreatDoor
def azI:DataW Unit->Value
 | .lit (.int k n)=>.int k n
 |_=>.bool false
def Gm:DataW Unit->List (DataW Unit)
 | .agg l=>l
 |_=>[]
def mZ(d:DataW Unit):List Value:=(Gm d).map azI
def W5(d:DataW Unit):List Value:=(Gm d).flatMap mZ
def Hh:DataW Unit->List UInt8
 | .iface _ (.ptr (.agg [.lit (.string b)]))=>b
 |_=>[]
def qW(h:Array Go.Obj)(g:Nat)(cs:Array Value):Array Go.Obj:=h.modify g fun
 | .cells _ t frozen=>Go.Obj.cells cs t frozen
 |o=>o
noncomputable def wW(os:Os):World:=
 let N:=(World.settled prog os).heap.size
 let a:=World.holding prog os ⟨#[.cells #[.string ⟨(Hh Rows.laid_strconv_ErrRange).toArray⟩] 419,.cells #[.string ⟨(Hh Rows.laid_strconv_ErrSyntax).toArray⟩] 419],#[],[]⟩
 let b:=qW a.heap 5 #[.iface 417 (.pointer (some ⟨N,0,none⟩))]
 let c:=qW b 4 #[.iface 417 (.pointer (some ⟨N+1,0,none⟩))]
 let d:=qW c 6 (mZ Rows.laid_math_bits_deBruijn32tab).toArray
 let e:=qW d 7 (mZ Rows.laid_math_bits_deBruijn64tab).toArray
 let f:=qW e 1 (mZ Rows.laid_internal_strconv_uint64pow10).toArray
 let g:=qW f 9 (W5 Rows.laid_unicode_utf8_acceptRanges).toArray
 let h:=qW g 8 (mZ Rows.laid_unicode_utf8_first).toArray
 {a with heap:=h}
noncomputable abbrev yD:Nat:=(World.settled prog default).heap.size
set_option maxRecDepth 1000000 in
theorem azu(os:Os)(args:Array Value):LaidIn prog ((wW os).forCall (fun _ _=>0) ⟨#[],args,[]⟩).memory Rows.tableChecksUptoRow.laid [6,7,1,9,5,yD,4,yD+1,8]:=
 LaidIn.of_run [6,7,1,9,5,yD,4,yD+1,8] 8 (by kernel_rfl) (by kernel_rfl) (by kernel_rfl) (by kernel_rfl)
theorem Vk(os:Os)(args:Array Value):laidMet prog Rows.tableChecksUptoRow.laid ((wW os).forCall (fun _ _=>0) ⟨#[],args,[]⟩).memory:=(azu os args).met
end Go.al
