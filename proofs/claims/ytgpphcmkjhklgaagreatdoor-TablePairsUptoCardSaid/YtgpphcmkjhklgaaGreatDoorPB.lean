import Derived.Test.YtgpphcmkjhklgaaGreatDoorRows
import Derived.Deep.DeepHandedRow
import Derived.Deep.DeepWitnessRowRef
import Derived.Lib.LaidIn
import Derived.Lib.LaidTab
import Derived.ProofKit
import Derived.OpenShut
/- Parts of a proof. -/
set_option linter.unusedSimpArgs false
set_option linter.unusedVariables false
set_option linter.unusedSectionVars false
open Go.Proofs.Tryz
namespace Go.aw
open Go.Proofs Go.Proofs.YtgpphcmkjhklgaaGreatDoor
def azm:DataW Unit->Value
 | .lit (.int k n)=>.int k n
 |_=>.bool false
def F6:DataW Unit->List (DataW Unit)
 | .agg l=>l
 |_=>[]
def nB(d:DataW Unit):List Value:=(F6 d).map azm
def WV(d:DataW Unit):List Value:=(F6 d).flatMap nB
def G1:DataW Unit->List UInt8
 | .iface _ (.ptr (.agg [.lit (.string b)]))=>b
 |_=>[]
def q9(h:Array Go.Obj)(g:Nat)(cs:Array Value):Array Go.Obj:=h.modify g fun
 | .cells _ t frozen=>Go.Obj.cells cs t frozen
 |o=>o
noncomputable def wP(os:Os):World:=
 let N:=(World.settled prog os).heap.size
 let a:=World.holding prog os ⟨#[.cells #[.string ⟨(G1 Rows.laid_strconv_ErrRange).toArray⟩] 419,.cells #[.string ⟨(G1 Rows.laid_strconv_ErrSyntax).toArray⟩] 419],#[],[]⟩
 let b:=q9 a.heap 5 #[.iface 417 (.pointer (some ⟨N,0,none⟩))]
 let c:=q9 b 4 #[.iface 417 (.pointer (some ⟨N+1,0,none⟩))]
 let d:=q9 c 6 (nB Rows.laid_math_bits_deBruijn32tab).toArray
 let e:=q9 d 7 (nB Rows.laid_math_bits_deBruijn64tab).toArray
 let f:=q9 e 1 (nB Rows.laid_internal_strconv_uint64pow10).toArray
 let g:=q9 f 9 (WV Rows.laid_unicode_utf8_acceptRanges).toArray
 let h:=q9 g 8 (nB Rows.laid_unicode_utf8_first).toArray
 {a with heap:=h}
noncomputable abbrev yE:Nat:=(World.settled prog default).heap.size
set_option maxRecDepth 1000000 in
theorem ayE(os:Os)(args:Array Value):LaidIn prog ((wP os).forCall (fun _ _=>0) ⟨#[],args,[]⟩).memory Rows.tableChecksUptoRow.laid [6,7,1,9,5,yE,4,yE+1,8]:=
 LaidIn.of_run [6,7,1,9,5,yE,4,yE+1,8] 8 (by kernel_rfl) (by kernel_rfl) (by kernel_rfl) (by kernel_rfl)
theorem Ve(os:Os)(args:Array Value):laidMet prog Rows.tableChecksUptoRow.laid ((wP os).forCall (fun _ _=>0) ⟨#[],args,[]⟩).memory:=(ayE os args).met
end Go.aw
