import Derived.Test.YtdjojlnnobkliaaGreatDoorTZ
import Derived.Test.YtdjojlnnobkliaaGreatDoorRows
import Derived.Deep.DeepHandedRow
import Derived.Deep.DeepWitnessRowRef
import Derived.Lib.LaidIn
import Derived.Lib.LaidTab
import Derived.ProofKit
import Derived.OpenShut
/- Parts of a proof. -/
set_option linter.unusedSimpArgs false
set_option linter.unusedVariables false
set_option linter.unusedSectionVars false
open Go.Proofs.Tryz
namespace Go.ag
open Go.Proofs Go.Proofs.YtdjojlnnobkliaaGreatDoor
def aPd:DataW Unit->Value
 | .lit (.int k n)=>.int k n
 |_=>.bool false
def MK:DataW Unit->List (DataW Unit)
 | .agg l=>l
 |_=>[]
def ru(d:DataW Unit):List Value:=(MK d).map aPd
def aFa(d:DataW Unit):List Value:=(MK d).flatMap ru
def NK:DataW Unit->List UInt8
 | .iface _ (.ptr (.agg [.lit (.string b)]))=>b
 |_=>[]
def wz(h:Array Go.Obj)(g:Nat)(cs:Array Value):Array Go.Obj:=h.modify g fun
 | .cells _ t frozen=>Go.Obj.cells cs t frozen
 |o=>o
noncomputable def Cr(os:Os):World:=
 let N:=(World.settled prog os).heap.size
 let w0:=World.holding prog os ⟨#[.cells #[.string ⟨(NK Rows.laid_strconv_ErrRange).toArray⟩] 433,.cells #[.string ⟨(NK Rows.laid_strconv_ErrSyntax).toArray⟩] 433],#[],[]⟩
 let a:=wz w0.heap 4 #[.iface 431 (.pointer (some ⟨N,0,none⟩))]
 let b:=wz a 3 #[.iface 431 (.pointer (some ⟨N+1,0,none⟩))]
 let c:=wz b 6 (ru Rows.laid_math_bits_deBruijn32tab).toArray
 let d:=wz c 7 (ru Rows.laid_math_bits_deBruijn64tab).toArray
 let e:=wz d 5 (ru Rows.laid_internal_strconv_uint64pow10).toArray
 let f:=wz e 9 (aFa Rows.laid_unicode_utf8_acceptRanges).toArray
 let g:=wz f 8 (ru Rows.laid_unicode_utf8_first).toArray
 {w0 with heap:=g}
noncomputable abbrev DM:Nat:=(World.settled prog default).heap.size
set_option maxRecDepth 1000000 in
theorem aO0(os:Os)(args:Array Value):LaidIn prog ((Cr os).forCall (fun _ _=>0) ⟨#[],args,[]⟩).memory Rows.aimPlansUptoRow.laid [6,7,5,9,4,DM,3,DM+1,8]:=
 LaidIn.of_run [6,7,5,9,4,DM,3,DM+1,8] 8 k_ k_ k_ k_
theorem avU(os:Os)(args:Array Value):laidMet prog Rows.aimPlansUptoRow.laid ((Cr os).forCall (fun _ _=>0) ⟨#[],args,[]⟩).memory:=(aO0 os args).met
end Go.ag
