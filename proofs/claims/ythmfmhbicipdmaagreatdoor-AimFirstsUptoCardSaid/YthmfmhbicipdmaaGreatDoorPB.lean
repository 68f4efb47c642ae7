import Derived.Test.YthmfmhbicipdmaaGreatDoorRows
import Derived.Deep.DeepHandedRow
import Derived.Deep.DeepWitnessRowRef
import Derived.Lib.LaidIn
import Derived.Lib.LaidTab
import Derived.ProofKit
import Derived.OpenShut
/- Parts of a proof. -/
set_option linter.unusedSimpArgs false
set_option linter.unusedVariables false
set_option linter.unusedSectionVars false
open Go.Proofs.Tryz
namespace Go.ak
open Go.Proofs Go.Proofs.YthmfmhbicipdmaaGreatDoor
def aJU:DataW Unit->Value
 | .lit (.int k n)=>.int k n
 |_=>.bool false
def Jh:DataW Unit->List (DataW Unit)
 | .agg l=>l
 |_=>[]
def oL(d:DataW Unit):List Value:=(Jh d).map aJU
def axw(d:DataW Unit):List Value:=(Jh d).flatMap oL
def J6:DataW Unit->List UInt8
 | .iface _ (.ptr (.agg [.lit (.string b)]))=>b
 |_=>[]
def tx(h:Array Go.Obj)(g:Nat)(cs:Array Value):Array Go.Obj:=h.modify g fun
 | .cells _ t frozen=>Go.Obj.cells cs t frozen
 |o=>o
noncomputable def zb(os:Os):World:=
 let N:=(World.settled prog os).heap.size
 let w0:=World.holding prog os ⟨#[.cells #[.string ⟨(J6 Rows.laid_strconv_ErrRange).toArray⟩] 434,.cells #[.string ⟨(J6 Rows.laid_strconv_ErrSyntax).toArray⟩] 434],#[],[]⟩
 let a:=tx w0.heap 5 #[.iface 432 (.pointer (some ⟨N,0,none⟩))]
 let b:=tx a 4 #[.iface 432 (.pointer (some ⟨N+1,0,none⟩))]
 let c:=tx b 6 (oL Rows.laid_math_bits_deBruijn32tab).toArray
 let d:=tx c 7 (oL Rows.laid_math_bits_deBruijn64tab).toArray
 let e:=tx d 3 (oL Rows.laid_internal_strconv_uint64pow10).toArray
 let f:=tx e 9 (axw Rows.laid_unicode_utf8_acceptRanges).toArray
 let g:=tx f 8 (oL Rows.laid_unicode_utf8_first).toArray
 {w0 with heap:=g}
noncomputable abbrev AM:Nat:=(World.settled prog default).heap.size
set_option maxRecDepth 1000000 in
theorem aJI(os:Os)(args:Array Value):LaidIn prog ((zb os).forCall (fun _ _=>0) ⟨#[],args,[]⟩).memory Rows.aimFirstsUptoRow.laid [6,7,3,9,5,AM,4,AM+1,8]:=
 LaidIn.of_run [6,7,3,9,5,AM,4,AM+1,8] 8 (by kernel_rfl) (by kernel_rfl) (by kernel_rfl) (by kernel_rfl)
theorem YN(os:Os)(args:Array Value):laidMet prog Rows.aimFirstsUptoRow.laid ((zb os).forCall (fun _ _=>0) ⟨#[],args,[]⟩).memory:=(aJI os args).met
end Go.ak
