import Derived.Test.YtpojdjgcpgnaeaaGreatDoorRows
import Derived.Test.YtpojdjgcpgnaeaaGreatDoorMPA
import Derived.Test.YtpojdjgcpgnaeaaGreatDoorMPB
import Derived.ChangeBears
/- Parts of a proof. -/
set_option maxRecDepth 100000
set_option linter.unusedSimpArgs false
set_option linter.unusedVariables false
set_option linter.unusedSectionVars false
open Go.Proofs.Tryz
namespace Go.Proofs.YtpojdjgcpgnaeaaGreatDoor.rA
theorem one_le{H:Type}(d:DataW H):1<=Rows.uptoBulk d:=by
 cases d with
 |lit l=>cases l<;>simp[Rows.uptoBulk]
 |nil=>simp[Rows.uptoBulk]
 |ptr d=>simp[Rows.uptoBulk]
 |slice elems spare=>simp[Rows.uptoBulk]
 |agg parts=>simp[Rows.uptoBulk]
 |iface t d=>simp[Rows.uptoBulk]
 |map entries=>simp[Rows.uptoBulk]
 |held h=>simp[Rows.uptoBulk]
theorem vM{H:Type}{d:DataW H}{l:List (DataW H)}(h:d∈l):Rows.uptoBulk d<=Rows.uptoBulkAll l:=by
 induction l with
 |nil=>cases h
 |cons x r a=>
  simp only[Rows.uptoBulkAll];cases List.mem_cons.1 h with
  |inl e=>subst e;omega
  |inr e=>have:=a e;omega
theorem append{H:Type}(l r:List (DataW H)):Rows.uptoBulkAll (l++r)=Rows.uptoBulkAll l+Rows.uptoBulkAll r:=by
 induction l with
 |nil=>simp[Rows.uptoBulkAll]
 |cons x l a=>simp only[List.cons_append,Rows.uptoBulkAll,a];omega
theorem length_le{H:Type}(l:List (DataW H)):l.length<=Rows.uptoBulkAll l:=by
 induction l with
 |nil=>simp[Rows.uptoBulkAll]
 |cons x r a=>have:=one_le x;simp only[Rows.uptoBulkAll,List.length_cons];omega
theorem bound{H:Type}{l:List (DataW H)}(hk:Rows.uptoSmall H l=true):Rows.uptoBulkAll l<=1048576:=by
 simpa[Rows.uptoSmall]using hk
end Go.Proofs.YtpojdjgcpgnaeaaGreatDoor.rA
namespace Go.az
open Go.Proofs Go.Proofs.YtpojdjgcpgnaeaaGreatDoor
theorem azw:Kids prog (·<prog.types.size):=kids_rows k_ k_
theorem aow:∀t e,t<prog.types.size->prog.underlying t=some (.slice e)->0<prog.cellsOf e:=slices_full_of prog k_
section
variable{H:Type}{W:World}{aa:Nat->Prop}
end
end Go.az
