import Derived.Test.YtgpphcmkjhklgaaGreatDoorRows
import Derived.Deep.DeepHandedRow
import Derived.Deep.DeepWitnessRowRef
import Derived.Lib.LaidIn
import Derived.Lib.LaidTab
import Derived.ProofKit
import Derived.OpenShut
/- Parts of a proof. -/
set_option linter.unusedSimpArgs false
set_option linter.unusedVariables false
set_option linter.unusedSectionVars false
open Go.Proofs.Tryz
namespace Go.ag
open Go.Proofs Go.Proofs.YtgpphcmkjhklgaaGreatDoor
def aDU:DataW Unit->Value
 | .lit (.int k n)=>.int k n
 |_=>.bool false
def I3:DataW Unit->List (DataW Unit)
 | .agg l=>l
 |_=>[]
def ot(d:DataW Unit):List Value:=(I3 d).map aDU
def ZH(d:DataW Unit):List Value:=(I3 d).flatMap ot
def JS:DataW Unit->List UInt8
 | .iface _ (.ptr (.agg [.lit (.string b)]))=>b
 |_=>[]
def s9(h:Array Go.Obj)(g:Nat)(cs:Array Value):Array Go.Obj:=h.modify g fun
 | .cells _ t frozen=>Go.Obj.cells cs t frozen
 |o=>o
noncomputable def lG(os:Os):World:=
 let N:=(World.settled prog os).heap.size
 let a:=World.holding prog os ⟨#[.cells #[.string ⟨(JS Rows.laid_strconv_ErrRange).toArray⟩] 419,.cells #[.string ⟨(JS Rows.laid_strconv_ErrSyntax).toArray⟩] 419],#[],[]⟩
 let b:=s9 a.heap 5 #[.iface 417 (.pointer (some ⟨N,0,none⟩))]
 let c:=s9 b 4 #[.iface 417 (.pointer (some ⟨N+1,0,none⟩))]
 let d:=s9 c 6 (ot Rows.laid_math_bits_deBruijn32tab).toArray
 let e:=s9 d 7 (ot Rows.laid_math_bits_deBruijn64tab).toArray
 let f:=s9 e 1 (ot Rows.laid_internal_strconv_uint64pow10).toArray
 let g:=s9 f 9 (ZH Rows.laid_unicode_utf8_acceptRanges).toArray
 let h:=s9 g 8 (ot Rows.laid_unicode_utf8_first).toArray
 {a with heap:=h}
noncomputable abbrev A2:Nat:=(World.settled prog default).heap.size
set_option maxRecDepth 1000000 in
theorem aDw(os:Os)(args:Array Value):LaidIn prog ((lG os).forCall (fun _ _=>0) ⟨#[],args,[]⟩).memory Rows.tableChecksUptoRow.laid [6,7,1,9,5,A2,4,A2+1,8]:=
 LaidIn.of_run [6,7,1,9,5,A2,4,A2+1,8] 8 (by kernel_rfl) (by kernel_rfl) (by kernel_rfl) (by kernel_rfl)
theorem yi(os:Os)(args:Array Value):laidMet prog Rows.tableChecksUptoRow.laid ((lG os).forCall (fun _ _=>0) ⟨#[],args,[]⟩).memory:=(aDw os args).met
end Go.ag
