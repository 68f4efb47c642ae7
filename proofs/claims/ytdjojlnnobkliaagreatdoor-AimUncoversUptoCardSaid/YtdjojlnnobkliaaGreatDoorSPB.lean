import Derived.Test.YtdjojlnnobkliaaGreatDoorSZ
import Derived.Test.YtdjojlnnobkliaaGreatDoorRows
import Derived.Deep.DeepHandedRow
import Derived.Deep.DeepWitnessRowRef
import Derived.Lib.LaidIn
import Derived.Lib.LaidTab
import Derived.ProofKit
import Derived.OpenShut
/- Parts of a proof. -/
set_option linter.unusedSimpArgs false
set_option linter.unusedVariables false
set_option linter.unusedSectionVars false
open Go.Proofs.Tryz
namespace Go.aq
open Go.Proofs Go.Proofs.YtdjojlnnobkliaaGreatDoor
def aGo:DataW Unit->Value
 | .lit (.int k n)=>.int k n
 |_=>.bool false
def IU:DataW Unit->List (DataW Unit)
 | .agg l=>l
 |_=>[]
def oA(d:DataW Unit):List Value:=(IU d).map aGo
def aeT(d:DataW Unit):List Value:=(IU d).flatMap oA
def JK:DataW Unit->List UInt8
 | .iface _ (.ptr (.agg [.lit (.string b)]))=>b
 |_=>[]
def sH(h:Array Go.Obj)(g:Nat)(cs:Array Value):Array Go.Obj:=h.modify g fun
 | .cells _ t frozen=>Go.Obj.cells cs t frozen
 |o=>o
noncomputable def yr(os:Os):World:=
 let N:=(World.settled prog os).heap.size
 let w0:=World.holding prog os ⟨#[.cells #[.string ⟨(JK Rows.laid_strconv_ErrRange).toArray⟩] 433,.cells #[.string ⟨(JK Rows.laid_strconv_ErrSyntax).toArray⟩] 433],#[],[]⟩
 let a:=sH w0.heap 4 #[.iface 431 (.pointer (some ⟨N,0,none⟩))]
 let b:=sH a 3 #[.iface 431 (.pointer (some ⟨N+1,0,none⟩))]
 let c:=sH b 6 (oA Rows.laid_math_bits_deBruijn32tab).toArray
 let d:=sH c 7 (oA Rows.laid_math_bits_deBruijn64tab).toArray
 let e:=sH d 5 (oA Rows.laid_internal_strconv_uint64pow10).toArray
 let f:=sH e 9 (aeT Rows.laid_unicode_utf8_acceptRanges).toArray
 let g:=sH f 8 (oA Rows.laid_unicode_utf8_first).toArray
 {w0 with heap:=g}
noncomputable abbrev Af:Nat:=(World.settled prog default).heap.size
set_option maxRecDepth 1000000 in
theorem aGa(os:Os)(args:Array Value):LaidIn prog ((yr os).forCall (fun _ _=>0) ⟨#[],args,[]⟩).memory Rows.aimPlansUptoRow.laid [6,7,5,9,4,Af,3,Af+1,8]:=
 LaidIn.of_run [6,7,5,9,4,Af,3,Af+1,8] 8 k_ k_ k_ k_
theorem Yq(os:Os)(args:Array Value):laidMet prog Rows.aimPlansUptoRow.laid ((yr os).forCall (fun _ _=>0) ⟨#[],args,[]⟩).memory:=(aGa os args).met
end Go.aq
