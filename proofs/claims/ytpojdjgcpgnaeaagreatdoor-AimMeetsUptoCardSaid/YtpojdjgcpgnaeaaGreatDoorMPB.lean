import Derived.Test.YtpojdjgcpgnaeaaGreatDoorMZ
import Derived.Test.YtpojdjgcpgnaeaaGreatDoorRows
import Derived.Deep.DeepHandedRow
import Derived.Deep.DeepWitnessRowRef
import Derived.Lib.LaidIn
import Derived.Lib.LaidTab
import Derived.ProofKit
import Derived.OpenShut
/- Parts of a proof. -/
set_option linter.unusedSimpArgs false
set_option linter.unusedVariables false
set_option linter.unusedSectionVars false
open Go.Proofs.Tryz
namespace Go.az
open Go.Proofs Go.Proofs.YtpojdjgcpgnaeaaGreatDoor
def az2:DataW Unit->Value
 | .lit (.int k n)=>.int k n
 |_=>.bool false
def Km:DataW Unit->List (DataW Unit)
 | .agg l=>l
 |_=>[]
def pQ(d:DataW Unit):List Value:=(Km d).map az2
def aiB(d:DataW Unit):List Value:=(Km d).flatMap pQ
def K2:DataW Unit->List UInt8
 | .iface _ (.ptr (.agg [.lit (.string b)]))=>b
 |_=>[]
def tY(h:Array Go.Obj)(g:Nat)(cs:Array Value):Array Go.Obj:=h.modify g fun
 | .cells _ t frozen=>Go.Obj.cells cs t frozen
 |o=>o
noncomputable def Ad(os:Os):World:=
 let N:=(World.settled prog os).heap.size
 let w0:=World.holding prog os ⟨#[.cells #[.string ⟨(K2 Rows.laid_strconv_ErrRange).toArray⟩] 391,.cells #[.string ⟨(K2 Rows.laid_strconv_ErrSyntax).toArray⟩] 391],#[],[]⟩
 let a:=tY w0.heap 5 #[.iface 389 (.pointer (some ⟨N,0,none⟩))]
 let b:=tY a 4 #[.iface 389 (.pointer (some ⟨N+1,0,none⟩))]
 let c:=tY b 6 (pQ Rows.laid_math_bits_deBruijn32tab).toArray
 let d:=tY c 7 (pQ Rows.laid_math_bits_deBruijn64tab).toArray
 let e:=tY d 3 (pQ Rows.laid_internal_strconv_uint64pow10).toArray
 let f:=tY e 9 (aiB Rows.laid_unicode_utf8_acceptRanges).toArray
 let g:=tY f 8 (pQ Rows.laid_unicode_utf8_first).toArray
 {w0 with heap:=g}
noncomputable abbrev BP:Nat:=(World.settled prog default).heap.size
set_option maxRecDepth 1000000 in
theorem azy(os:Os)(args:Array Value):LaidIn prog ((Ad os).forCall (fun _ _=>0) ⟨#[],args,[]⟩).memory Rows.aimMeetsUptoRow.laid [6,7,3,9,5,BP,4,BP+1,8]:=
 LaidIn.of_run [6,7,3,9,5,BP,4,BP+1,8] 8 k_ k_ k_ k_
theorem Y0(os:Os)(args:Array Value):laidMet prog Rows.aimMeetsUptoRow.laid ((Ad os).forCall (fun _ _=>0) ⟨#[],args,[]⟩).memory:=(azy os args).met
end Go.az
