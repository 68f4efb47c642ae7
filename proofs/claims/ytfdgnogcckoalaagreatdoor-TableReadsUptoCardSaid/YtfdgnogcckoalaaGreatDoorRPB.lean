import Derived.Test.YtfdgnogcckoalaaGreatDoorRZ
import Derived.Test.YtfdgnogcckoalaaGreatDoorRows
import Derived.Deep.DeepHandedRow
import Derived.Deep.DeepWitnessRowRef
import Derived.Lib.LaidIn
import Derived.Lib.LaidTab
import Derived.ProofKit
import Derived.OpenShut
/- Parts of a proof. -/
set_option linter.unusedSimpArgs false
set_option linter.unusedVariables false
set_option linter.unusedSectionVars false
open Go.Proofs.Tryz
namespace Go.au
open Go.Proofs Go.Proofs.YtfdgnogcckoalaaGreatDoor
def aKl:DataW Unit->Value
 | .lit (.int k n)=>.int k n
 |_=>.bool false
def JJ:DataW Unit->List (DataW Unit)
 | .agg l=>l
 |_=>[]
def oH(d:DataW Unit):List Value:=(JJ d).map aKl
def ara(d:DataW Unit):List Value:=(JJ d).flatMap oH
def Ky:DataW Unit->List UInt8
 | .iface _ (.ptr (.agg [.lit (.string b)]))=>b
 |_=>[]
def sy(h:Array Go.Obj)(g:Nat)(cs:Array Value):Array Go.Obj:=h.modify g fun
 | .cells _ t frozen=>Go.Obj.cells cs t frozen
 |o=>o
noncomputable def tN(os:Os):World:=
 let N:=(World.settled prog os).heap.size
 let a:=World.holding prog os ⟨#[.cells #[.string ⟨(Ky Rows.laid_strconv_ErrRange).toArray⟩] 427,.cells #[.string ⟨(Ky Rows.laid_strconv_ErrSyntax).toArray⟩] 427],#[],[]⟩
 let b:=sy a.heap 5 #[.iface 425 (.pointer (some ⟨N,0,none⟩))]
 let c:=sy b 4 #[.iface 425 (.pointer (some ⟨N+1,0,none⟩))]
 let d:=sy c 6 (oH Rows.laid_math_bits_deBruijn32tab).toArray
 let e:=sy d 7 (oH Rows.laid_math_bits_deBruijn64tab).toArray
 let f:=sy e 1 (oH Rows.laid_internal_strconv_uint64pow10).toArray
 let g:=sy f 9 (ara Rows.laid_unicode_utf8_acceptRanges).toArray
 let h:=sy g 8 (oH Rows.laid_unicode_utf8_first).toArray
 {a with heap:=h}
noncomputable abbrev Ah:Nat:=(World.settled prog default).heap.size
set_option maxRecDepth 1000000 in
theorem aJ4(os:Os)(args:Array Value):LaidIn prog ((tN os).forCall (fun _ _=>0) ⟨#[],args,[]⟩).memory Rows.tableKeepsUptoRow.laid [6,7,1,9,5,Ah,4,Ah+1,8]:=
 LaidIn.of_run [6,7,1,9,5,Ah,4,Ah+1,8] 8 k_ k_ k_ k_
theorem OX(os:Os)(args:Array Value):laidMet prog Rows.tableKeepsUptoRow.laid ((tN os).forCall (fun _ _=>0) ⟨#[],args,[]⟩).memory:=(aJ4 os args).met
end Go.au
