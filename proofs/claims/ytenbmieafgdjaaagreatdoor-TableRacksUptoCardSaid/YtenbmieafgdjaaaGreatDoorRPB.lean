import Derived.Test.YtenbmieafgdjaaaGreatDoorRows
import Derived.Deep.DeepHandedRow
import Derived.Deep.DeepWitnessRowRef
import Derived.Lib.LaidIn
import Derived.Lib.LaidTab
import Derived.ProofKit
import Derived.OpenShut
/- Parts of a proof. -/
set_option linter.unusedSimpArgs false
set_option linter.unusedVariables false
set_option linter.unusedSectionVars false
open Go.Proofs.Tryz
namespace Go.aj
open Go.Proofs Go.Proofs.YtenbmieafgdjaaaGreatDoor
def aCv:DataW Unit->Value
 | .lit (.int k n)=>.int k n
 |_=>.bool false
def HX:DataW Unit->List (DataW Unit)
 | .agg l=>l
 |_=>[]
def nP(d:DataW Unit):List Value:=(HX d).map aCv
def YJ(d:DataW Unit):List Value:=(HX d).flatMap nP
def IY:DataW Unit->List UInt8
 | .iface _ (.ptr (.agg [.lit (.string b)]))=>b
 |_=>[]
def rT(h:Array Go.Obj)(g:Nat)(cs:Array Value):Array Go.Obj:=h.modify g fun
 | .cells _ t frozen=>Go.Obj.cells cs t frozen
 |o=>o
noncomputable def sY(os:Os):World:=
 let N:=(World.settled prog os).heap.size
 let a:=World.holding prog os ⟨#[.cells #[.string ⟨(IY Rows.laid_strconv_ErrRange).toArray⟩] 419,.cells #[.string ⟨(IY Rows.laid_strconv_ErrSyntax).toArray⟩] 419],#[],[]⟩
 let b:=rT a.heap 5 #[.iface 417 (.pointer (some ⟨N,0,none⟩))]
 let c:=rT b 4 #[.iface 417 (.pointer (some ⟨N+1,0,none⟩))]
 let d:=rT c 6 (nP Rows.laid_math_bits_deBruijn32tab).toArray
 let e:=rT d 7 (nP Rows.laid_math_bits_deBruijn64tab).toArray
 let f:=rT e 1 (nP Rows.laid_internal_strconv_uint64pow10).toArray
 let g:=rT f 9 (YJ Rows.laid_unicode_utf8_acceptRanges).toArray
 let h:=rT g 8 (nP Rows.laid_unicode_utf8_first).toArray
 {a with heap:=h}
noncomputable abbrev zm:Nat:=(World.settled prog default).heap.size
set_option maxRecDepth 1000000 in
theorem aBV(os:Os)(args:Array Value):LaidIn prog ((sY os).forCall (fun _ _=>0) ⟨#[],args,[]⟩).memory Rows.tableRacksUptoRow.laid [6,7,1,9,5,zm,4,zm+1,8]:=
 LaidIn.of_run [6,7,1,9,5,zm,4,zm+1,8] 8 (by kernel_rfl) (by kernel_rfl) (by kernel_rfl) (by kernel_rfl)
theorem M0(os:Os)(args:Array Value):laidMet prog Rows.tableRacksUptoRow.laid ((sY os).forCall (fun _ _=>0) ⟨#[],args,[]⟩).memory:=(aBV os args).met
end Go.aj
