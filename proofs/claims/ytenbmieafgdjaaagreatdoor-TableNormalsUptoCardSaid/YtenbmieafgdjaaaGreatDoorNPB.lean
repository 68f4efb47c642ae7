import Derived.Test.YtenbmieafgdjaaaGreatDoorRows
import Derived.Deep.DeepHandedRow
import Derived.Deep.DeepWitnessRowRef
import Derived.Lib.LaidIn
import Derived.Lib.LaidTab
import Derived.ProofKit
import Derived.OpenShut
/- Parts of a proof. -/
set_option linter.unusedSimpArgs false
set_option linter.unusedVariables false
set_option linter.unusedSectionVars false
open Go.Proofs.Tryz
namespace Go.au
open Go.Proofs Go.Proofs.YtenbmieafgdjaaaGreatDoor
def azo:DataW Unit->Value
 | .lit (.int k n)=>.int k n
 |_=>.bool false
def Gm:DataW Unit->List (DataW Unit)
 | .agg l=>l
 |_=>[]
def nA(d:DataW Unit):List Value:=(Gm d).map azo
def WZ(d:DataW Unit):List Value:=(Gm d).flatMap nA
def Hg:DataW Unit->List UInt8
 | .iface _ (.ptr (.agg [.lit (.string b)]))=>b
 |_=>[]
def qV(h:Array Go.Obj)(g:Nat)(cs:Array Value):Array Go.Obj:=h.modify g fun
 | .cells _ t frozen=>Go.Obj.cells cs t frozen
 |o=>o
noncomputable def wO(os:Os):World:=
 let N:=(World.settled prog os).heap.size
 let a:=World.holding prog os ⟨#[.cells #[.string ⟨(Hg Rows.laid_strconv_ErrRange).toArray⟩] 419,.cells #[.string ⟨(Hg Rows.laid_strconv_ErrSyntax).toArray⟩] 419],#[],[]⟩
 let b:=qV a.heap 5 #[.iface 417 (.pointer (some ⟨N,0,none⟩))]
 let c:=qV b 4 #[.iface 417 (.pointer (some ⟨N+1,0,none⟩))]
 let d:=qV c 6 (nA Rows.laid_math_bits_deBruijn32tab).toArray
 let e:=qV d 7 (nA Rows.laid_math_bits_deBruijn64tab).toArray
 let f:=qV e 1 (nA Rows.laid_internal_strconv_uint64pow10).toArray
 let g:=qV f 9 (WZ Rows.laid_unicode_utf8_acceptRanges).toArray
 let h:=qV g 8 (nA Rows.laid_unicode_utf8_first).toArray
 {a with heap:=h}
noncomputable abbrev yA:Nat:=(World.settled prog default).heap.size
set_option maxRecDepth 1000000 in
theorem ayK(os:Os)(args:Array Value):LaidIn prog ((wO os).forCall (fun _ _=>0) ⟨#[],args,[]⟩).memory Rows.tableRacksUptoRow.laid [6,7,1,9,5,yA,4,yA+1,8]:=
 LaidIn.of_run [6,7,1,9,5,yA,4,yA+1,8] 8 (by kernel_rfl) (by kernel_rfl) (by kernel_rfl) (by kernel_rfl)
theorem Vb(os:Os)(args:Array Value):laidMet prog Rows.tableRacksUptoRow.laid ((wO os).forCall (fun _ _=>0) ⟨#[],args,[]⟩).memory:=(ayK os args).met
end Go.au
