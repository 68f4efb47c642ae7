import Derived.Test.YtfdgnogcckoalaaGreatDoorKZ
import Derived.Test.YtfdgnogcckoalaaGreatDoorRows
import Derived.Deep.DeepHandedRow
import Derived.Deep.DeepWitnessRowRef
import Derived.Lib.LaidIn
import Derived.Lib.LaidTab
import Derived.ProofKit
import Derived.OpenShut
/- Parts of a proof. -/
set_option linter.unusedSimpArgs false
set_option linter.unusedVariables false
set_option linter.unusedSectionVars false
open Go.Proofs.Tryz
namespace Go.an
open Go.Proofs Go.Proofs.YtfdgnogcckoalaaGreatDoor
def aOT:DataW Unit->Value
 | .lit (.int k n)=>.int k n
 |_=>.bool false
def LG:DataW Unit->List (DataW Unit)
 | .agg l=>l
 |_=>[]
def pC(d:DataW Unit):List Value:=(LG d).map aOT
def aCG(d:DataW Unit):List Value:=(LG d).flatMap pC
def MA:DataW Unit->List UInt8
 | .iface _ (.ptr (.agg [.lit (.string b)]))=>b
 |_=>[]
def tU(h:Array Go.Obj)(g:Nat)(cs:Array Value):Array Go.Obj:=h.modify g fun
 | .cells _ t frozen=>Go.Obj.cells cs t frozen
 |o=>o
noncomputable def Ai(os:Os):World:=
 let N:=(World.settled prog os).heap.size
 let a:=World.holding prog os ⟨#[.cells #[.string ⟨(MA Rows.laid_strconv_ErrRange).toArray⟩] 427,.cells #[.string ⟨(MA Rows.laid_strconv_ErrSyntax).toArray⟩] 427],#[],[]⟩
 let b:=tU a.heap 5 #[.iface 425 (.pointer (some ⟨N,0,none⟩))]
 let c:=tU b 4 #[.iface 425 (.pointer (some ⟨N+1,0,none⟩))]
 let d:=tU c 6 (pC Rows.laid_math_bits_deBruijn32tab).toArray
 let e:=tU d 7 (pC Rows.laid_math_bits_deBruijn64tab).toArray
 let f:=tU e 1 (pC Rows.laid_internal_strconv_uint64pow10).toArray
 let g:=tU f 9 (aCG Rows.laid_unicode_utf8_acceptRanges).toArray
 let h:=tU g 8 (pC Rows.laid_unicode_utf8_first).toArray
 {a with heap:=h}
noncomputable abbrev BN:Nat:=(World.settled prog default).heap.size
set_option maxRecDepth 1000000 in
theorem aOv(os:Os)(args:Array Value):LaidIn prog ((Ai os).forCall (fun _ _=>0) ⟨#[],args,[]⟩).memory Rows.tableKeepsUptoRow.laid [6,7,1,9,5,BN,4,BN+1,8]:=
 LaidIn.of_run [6,7,1,9,5,BN,4,BN+1,8] 8 k_ k_ k_ k_
theorem avU(os:Os)(args:Array Value):laidMet prog Rows.tableKeepsUptoRow.laid ((Ai os).forCall (fun _ _=>0) ⟨#[],args,[]⟩).memory:=(aOv os args).met
end Go.an
