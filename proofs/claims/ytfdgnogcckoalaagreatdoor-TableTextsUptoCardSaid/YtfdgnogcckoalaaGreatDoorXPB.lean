import Derived.Test.YtfdgnogcckoalaaGreatDoorXZ
import Derived.Test.YtfdgnogcckoalaaGreatDoorRows
import Derived.Deep.DeepHandedRow
import Derived.Deep.DeepWitnessRowRef
import Derived.Lib.LaidIn
import Derived.Lib.LaidTab
import Derived.ProofKit
import Derived.OpenShut
/- Parts of a proof. -/
set_option linter.unusedSimpArgs false
set_option linter.unusedVariables false
set_option linter.unusedSectionVars false
open Go.Proofs.Tryz
namespace Go.aw
open Go.Proofs Go.Proofs.YtfdgnogcckoalaaGreatDoor
def az5:DataW Unit->Value
 | .lit (.int k n)=>.int k n
 |_=>.bool false
def GR:DataW Unit->List (DataW Unit)
 | .agg l=>l
 |_=>[]
def nJ(d:DataW Unit):List Value:=(GR d).map az5
def XB(d:DataW Unit):List Value:=(GR d).flatMap nJ
def HM:DataW Unit->List UInt8
 | .iface _ (.ptr (.agg [.lit (.string b)]))=>b
 |_=>[]
def rz(h:Array Go.Obj)(g:Nat)(cs:Array Value):Array Go.Obj:=h.modify g fun
 | .cells _ t frozen=>Go.Obj.cells cs t frozen
 |o=>o
noncomputable def xj(os:Os):World:=
 let N:=(World.settled prog os).heap.size
 let a:=World.holding prog os ⟨#[.cells #[.string ⟨(HM Rows.laid_strconv_ErrRange).toArray⟩] 427,.cells #[.string ⟨(HM Rows.laid_strconv_ErrSyntax).toArray⟩] 427],#[],[]⟩
 let b:=rz a.heap 5 #[.iface 425 (.pointer (some ⟨N,0,none⟩))]
 let c:=rz b 4 #[.iface 425 (.pointer (some ⟨N+1,0,none⟩))]
 let d:=rz c 6 (nJ Rows.laid_math_bits_deBruijn32tab).toArray
 let e:=rz d 7 (nJ Rows.laid_math_bits_deBruijn64tab).toArray
 let f:=rz e 1 (nJ Rows.laid_internal_strconv_uint64pow10).toArray
 let g:=rz f 9 (XB Rows.laid_unicode_utf8_acceptRanges).toArray
 let h:=rz g 8 (nJ Rows.laid_unicode_utf8_first).toArray
 {a with heap:=h}
noncomputable abbrev yS:Nat:=(World.settled prog default).heap.size
set_option maxRecDepth 1000000 in
theorem azL(os:Os)(args:Array Value):LaidIn prog ((xj os).forCall (fun _ _=>0) ⟨#[],args,[]⟩).memory Rows.tableKeepsUptoRow.laid [6,7,1,9,5,yS,4,yS+1,8]:=
 LaidIn.of_run [6,7,1,9,5,yS,4,yS+1,8] 8 k_ k_ k_ k_
theorem VR(os:Os)(args:Array Value):laidMet prog Rows.tableKeepsUptoRow.laid ((xj os).forCall (fun _ _=>0) ⟨#[],args,[]⟩).memory:=(azL os args).met
end Go.aw
