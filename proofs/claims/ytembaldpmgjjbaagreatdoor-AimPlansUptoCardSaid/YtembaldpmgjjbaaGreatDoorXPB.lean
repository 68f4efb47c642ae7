import Derived.Test.YtembaldpmgjjbaaGreatDoorXZ
import Derived.Test.YtembaldpmgjjbaaGreatDoorRows
import Derived.Deep.DeepHandedRow
import Derived.Deep.DeepWitnessRowRef
import Derived.Lib.LaidIn
import Derived.Lib.LaidTab
import Derived.ProofKit
import Derived.OpenShut
/- Parts of a proof. -/
set_option linter.unusedSimpArgs false
set_option linter.unusedVariables false
set_option linter.unusedSectionVars false
open Go.Proofs.Tryz
namespace Go.ae
open Go.Proofs Go.Proofs.YtembaldpmgjjbaaGreatDoor
def aOC:DataW Unit->Value
 | .lit (.int k n)=>.int k n
 |_=>.bool false
def Oh:DataW Unit->List (DataW Unit)
 | .agg l=>l
 |_=>[]
def se(d:DataW Unit):List Value:=(Oh d).map aOC
def aLe(d:DataW Unit):List Value:=(Oh d).flatMap se
def OW:DataW Unit->List UInt8
 | .iface _ (.ptr (.agg [.lit (.string b)]))=>b
 |_=>[]
def wj(h:Array Go.Obj)(g:Nat)(cs:Array Value):Array Go.Obj:=h.modify g fun
 | .cells _ t frozen=>Go.Obj.cells cs t frozen
 |o=>o
noncomputable def CE(os:Os):World:=
 let N:=(World.settled prog os).heap.size
 let w0:=World.holding prog os ⟨#[.cells #[.string ⟨(OW Rows.laid_strconv_ErrRange).toArray⟩] 424,.cells #[.string ⟨(OW Rows.laid_strconv_ErrSyntax).toArray⟩] 424],#[],[]⟩
 let a:=wj w0.heap 4 #[.iface 422 (.pointer (some ⟨N,0,none⟩))]
 let b:=wj a 3 #[.iface 422 (.pointer (some ⟨N+1,0,none⟩))]
 let c:=wj b 6 (se Rows.laid_math_bits_deBruijn32tab).toArray
 let d:=wj c 7 (se Rows.laid_math_bits_deBruijn64tab).toArray
 let e:=wj d 5 (se Rows.laid_internal_strconv_uint64pow10).toArray
 let f:=wj e 9 (aLe Rows.laid_unicode_utf8_acceptRanges).toArray
 let g:=wj f 8 (se Rows.laid_unicode_utf8_first).toArray
 {w0 with heap:=g}
noncomputable abbrev D5:Nat:=(World.settled prog default).heap.size
set_option maxRecDepth 1000000 in
theorem aOp(os:Os)(args:Array Value):LaidIn prog ((CE os).forCall (fun _ _=>0) ⟨#[],args,[]⟩).memory Rows.aimPlansUptoRow.laid [6,7,5,9,4,D5,3,D5+1,8]:=
 LaidIn.of_run [6,7,5,9,4,D5,3,D5+1,8] 8 k_ k_ k_ k_
theorem avU(os:Os)(args:Array Value):laidMet prog Rows.aimPlansUptoRow.laid ((CE os).forCall (fun _ _=>0) ⟨#[],args,[]⟩).memory:=(aOp os args).met
end Go.ae
