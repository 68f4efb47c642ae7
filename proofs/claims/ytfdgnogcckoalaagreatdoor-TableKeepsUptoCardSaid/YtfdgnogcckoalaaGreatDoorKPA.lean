import Derived.Test.YtfdgnogcckoalaaGreatDoorKThC
import Derived.Deep.Slices
import Derived.Test.YtfdgnogcckoalaaGreatDoorProg
import Derived.KernelRfl
import Derived.Lib.ItoaNum
import Derived.Test.YtfdgnogcckoalaaGreatDoorRows
import Derived.Lib.LaidTab
import Derived.ReadAgain
import Derived.ChangeOld
import Derived.RowKit3
import Derived.ChangeSame
import Derived.WideShapes
/- Parts of a proof. -/
set_option maxRecDepth 100000
set_option linter.unusedSimpArgs false
set_option linter.unusedVariables false
set_option linter.unusedSectionVars false
open Go.Proofs.Tryz
open Array renaming getElem?_eq_some_iff->am
open Bool renaming and_eq_true->ao
open Go renaming MemPlace->ap, Value->av, TypeId->ax, DataW->ay, Program->aT, World->a0, ChangeSpec->a1
open Go.DataW renaming trod->a2, TrodAll->a3, Whole->a4
open Go.MemPlace renaming row->a5
open Go.Value renaming okWide->a6, cells->a7
open Go.World renaming cells?_some->a8, cell?->a9, var?->bb, sameAt->be
open List renaming mem_cons_of_mem->bi, mem_cons_self->bk, getElem?_eq_getElem->bl, range->bo, flatten_append->br, map_cons->bv, range_succ->b0, map_append->b1, mem_cons->b2, take_of_length_le->b3, zip_cons_cons->b4, replicate->b5, mem_range->cb, take_add->cc, sum_cons->ce
open Nat renaming succ_mul->cr, eq_of_beq_eq_true->cv, beq->cx
open Option renaming bind_some->cy
open Option.some renaming injEq->c6
namespace Go.an
open Go.Deep
section
variable{H:Type}
def bN(P:aT):Nat->ax->ay H->PV
 |0,_,_=>.undef
 |n+1,t,d=>match P.underlying t,d with
  |some .bool,.lit (.bool b)=>.bool b
  |some (.int k),.lit (.int _ z)=>if(Lit.int k z).wf=true then .int k z else .undef
  |some .string,.lit (.string s)=>.str (s.map (·.toNat))
  |some (.slice e),.slice ds _=>.seq (ds.map (bN P n e))
  |some (.slice _),.nil=>.seq []
  |some (.struct fs),.agg ds=>.st (P.underlyingId t) ((fs.toList.zip ds).map fun p=>bN P n p.1.type p.2)
  |some (.array _ e),.agg ds=>.st (P.underlyingId t) (ds.map (bN P n e))
  |_,_=>.undef
def BE(P:aT):Nat->List Field->Bool
 |_,[]=>true
 |o,f::fs=>(f.offset==o)&&BE P (o+P.cellsOf f.type) fs
def mv(P:aT):Nat->ax->Bool
 |0,_=>false
 |n+1,t=>match P.underlying t with
  |some .bool|some (.int _)|some .string=>true
  |some (.slice e)=>mv P n e&&decide (0<P.cellsOf e)
  |some (.struct fs)=>(dY P (P.underlyingId t)==some (fs.toList.map fun f=>P.cellsOf f.type))&&BE P 0 fs.toList&&(((fs.toList.map fun f=>P.cellsOf f.type).sum)==P.cellsOf t)&&fs.toList.all fun f=>mv P n f.type
  |some (.array m e)=>(dY P (P.underlyingId t)==some (b5 m (P.cellsOf e)))&&(m*P.cellsOf e==P.cellsOf t)&&mv P n e
  |_=>false
variable{enc:ax×av->H}{P:aT}{w:a0}{base:Nat}{held:Bool}
theorem QS{n k:Nat}{ad:Nat->Prop}(j:∀t cs d s,mv P n t=true->a2 enc P w base (fun _=>true) held k t cs=some (d,s)->aY P w ad (bN P n t d) cs):
 ∀(fs:List Field)(a:List (ay H×List ap))(o:Nat)(cs:List av),BE P o fs=true->a.length=fs.length->(∀f∈fs,mv P n f.type=true)->o+(fs.map fun f=>P.cellsOf f.type).sum<=cs.length->
  (∀(i:Nat)(f:Field),fs[i]?=some f->a2 enc P w base (fun _=>true) held k f.type ((cs.drop f.offset).take (P.cellsOf f.type))=a[i]?)->
  bm P w ad (fs.map fun f=>P.cellsOf f.type) ((fs.zip (a.map (·.1))).map fun p=>bN P n p.1.type p.2) (fs.map fun f=>(cs.drop f.offset).take (P.cellsOf f.type))/\
   (fs.map fun f=>(cs.drop f.offset).take (P.cellsOf f.type)).flatten=(cs.drop o).take (fs.map fun f=>P.cellsOf f.type).sum
 |[],a,o,cs,_,hl,_,_,_=>by
  have:a=[]:=by simpa using hl
  subst this;simp[bm]
 |f::fs,[],o,cs,_,hl,_,_,_=>by simp at hl
 |f::fs,x::a,o,cs,b,hl,e,hlen,hx=>by
  simp only[BE,ao,beq_iff_eq]at b;obtain⟨b,r⟩:=b;simp only[bv,ce]at hlen;have h:=hx 0 f rfl;simp only[List.getElem?_cons_zero]at h;have l:=j _ _ x.1 x.2 (e f bk) h;have⟨m,q⟩:=QS j fs a (o+P.cellsOf f.type) cs r (by simpa using hl) (fun g c=>e g (bi _ c)) o_ (fun i g c=>by have:=hx (i+1) g (by simpa using c);simpa using this);refine⟨?_,?_⟩
  ·simp only[bv,b4,bm];exact⟨_,_,rfl,l,by simp[b];omega,m⟩
  ·simp only[bv,List.flatten_cons,ce,q,b];rw[<-List.drop_drop,cc]
theorem DY{ak len:Nat}{ad:Nat->Prop}{f:Nat->PV}{g:Nat->List av}:∀{l:List Nat},(∀i∈l,aY P w ad (f i) (g i)/\(g i).length=ak)->bm P w ad (b5 l.length ak) (l.map f) (l.map g)
 |[],_=>by simp[bm]
 |a::l,h=>by
  simp only[List.length_cons,List.replicate_succ,bv,bm];exact⟨_,_,rfl,(h a bk).1,(h a bk).2,DY (len:=len) fun i hi=>h i (bi _ hi)⟩
theorem trod_array{m:Nat}{e t:ax}{b:Nat}{cs:List av}{x:ay H×List ap}{d:Nat->Bool}(g:P.underlying t=some (.array m e))(h:a2 enc P w base d held b t cs=some x):
 ∃(a:List (ay H×List ap))(n:Nat),b=n+1/\x=(.agg (a.map (·.1)),a.flatMap (·.2))/\cs.length=P.cellsOf t/\a.length=m/\
  ∀i,i<m->a2 enc P w base d held n e ((cs.drop (i*P.cellsOf e)).take (P.cellsOf e))=a[i]?:=by
 cases b with
 |zero=>simp[a2]at h
 |succ n=>
  unfold a2 at h;rw[g]at h
  split at h<;>simp_all
  obtain⟨hl,a,c,f⟩:=h;exact⟨a,f.symm,by simpa using mapM_some_length c,fun i hi=>mapM_some_get c i i (by simp[hi])⟩
theorem LR{α:Type}{cs:List α}{ak:Nat}:∀m,((bo m).map fun i=>(cs.drop (i*ak)).take ak).flatten=cs.take (m*ak)
 |0=>by simp
 |m+1=>by
  rw[b0,b1,br,LR m,cr,cc];simp
theorem EX{V:Nat->List av}{ak:Nat}:∀(len:Nat),(∀i,i<len->(V i).length=ak)->((bo len).map V).flatten.length=len*ak
 |0,_=>by simp
 |len+1,h=>by
  rw[b0,b1,br,List.length_append,EX len fun i hi=>h i o_,cr];simp[h len o_]
theorem Mu{V:Nat->List av}{ak b o:Nat}:∀(len:Nat),(∀i,i<len->(V i).length=ak)->(∀i,i<len->∀j,j<ak->w.cell? ⟨b,o+(i*ak+j),none⟩=(V i)[j]?)->iE w b o ((bo len).map V).flatten
 |0,_,_=>by intro i hi;simp at hi
 |len+1,h,hc=>by
  intro i hi;have hl:=EX (V:=V) (ak:=ak) len fun i hi=>h i o_;have a:=Mu (V:=V) (ak:=ak) (b:=b) (o:=o) len (fun i hi=>h i o_) (fun i hi=>hc i o_);have e:((bo (len+1)).map V).flatten=((bo len).map V).flatten++V len:=by
   rw[b0,b1,br];simp
  have d:i<len*ak+ak:=by
   have:=EX (V:=V) (ak:=ak) (len+1) h;rw[cr]at this;omega
  rw[<-bl hi,e]
  by_cases c:i<len*ak
  ·rw[List.getElem?_append_left o_,bl o_];exact a i o_
  ·rw[List.getElem?_append_right o_,hl];have:=hc len o_ (i-len*ak) o_;rw[<-this];congr 3;omega
theorem xR:∀(n:Nat)(J:Nat)(t:ax)(cs:List av)(d:ay H)(r:List ap),mv P n t=true->a2 enc P w base (fun _=>true) held J t cs=some (d,r)->
 aY P w (fun k=>k<w.heap.size) (bN P n t d) cs
 |0,_,_,_,_,_,h,_=>by simp[mv]at h
 |n+1,J,t,cs,d,r,h,p=>by
  simp only[mv]at h
  split at h
  ·rename_i o;obtain⟨b,rfl,hx⟩:=DataW.trod_bool o p;cases hx;simp[bN,o,aY]
  ·rename_i k o;obtain⟨z,rfl,hx,E⟩:=DataW.trod_int o p;cases hx;simp[bN,o,E,aY]
  ·rename_i o;obtain⟨s,rfl,hx,_⟩:=DataW.trod_string o p;cases hx;simp[bN,o,aY]
  ·rename_i e o;simp only[ao,decide_eq_true_eq]at h;obtain⟨v,B⟩:=h;rcases open_slice o p with⟨rfl,hx⟩|⟨a,len,cap,m,k,D,S,rfl,ab,hl,ae,O,hx,U⟩
   ·cases hx;simp[bN,o,aY]
   cases hx;simp only[if_true]at O;subst O;obtain⟨V,q⟩:=choose_lt U;have R:a.spot=none\/m=0:=by
    by_cases E:m=0
    ·exact .inr E
    left;obtain⟨c1,_⟩:=q 0 o_;obtain⟨_,c2,c3⟩:=a8 c1;have c4:=c3 0 B;rw[bl o_]at c4;simp only[Addr.add,Nat.zero_mul,if_true]at c4;unfold a9 at c4
    split at c4
    ·split at c4
     ·cases c4
     ·rename_i hs;simpa using hs
    ·cases c4
   have M:∀i,i<m->∀j,j<P.cellsOf e->w.cell? ⟨a.block,a.off+(i*P.cellsOf e+j),none⟩=(V i)[j]?:=by
    intro i hi j X;have hs:a.spot=none:=R.resolve_right o_;obtain⟨_,_,c3⟩:=a8 (q i hi).1;have:=c3 j X;rw[add_add]at this;rw[<-this];obtain⟨F,G,I⟩:=a;simp only at hs;subst hs;unfold Addr.add;split<;>simp_all
   have A:∀i,i<m->(V i).length=P.cellsOf e:=fun i hi=>(a8 (q i hi).1).2.1;simp only[bN,o,aY];right;obtain⟨F,G,I⟩:=a;refine⟨F,G,m,P.cellsOf e,(bo len).map V,?_,?_,?_,by simpa using hl,I,R,s_⟩
   ·have:=DY (P:=P) (w:=w) (len:=len) (ak:=P.cellsOf e) (ad:=fun k=>k<w.heap.size) (f:=fun i=>bN P n e (D i)) (g:=V) (l:=bo len) (fun i hi=>by
     have hi:i<m:=by have:=cb.1 hi;omega
     exact⟨xR n k e (V i) (D i) (S i) v (q i hi).2,A i hi⟩)
    simpa[Function.comp_def]using this
   ·intro Y;have aa:0<len:=by
     rcases Nat.eq_zero_or_pos len with h|h
     ·subst h;simp at Y
     ·exact h
    have c:=M 0 o_ 0 B;rw[bl (by rw[A 0 o_];exact B)]at c;unfold a9 at c
    split at c
    ·rename_i y;exact(am.1 y).1
    ·cases c
   ·exact Mu len (fun i hi=>A i o_) (fun i hi=>M i o_)
  ·rename_i fs o;simp only[ao,beq_iff_eq,List.all_eq_true]at h;obtain⟨⟨⟨u,K⟩,L⟩,T⟩:=h;obtain⟨xs,k,rfl,hx,hlen,C,hf⟩:=DataW.trod_struct o p;cases hx;have⟨g1,g2⟩:=QS (ad:=fun k=>k<w.heap.size) (fun t cs d r Z y=>xR n k t cs d r Z y) fs.toList xs 0 cs K (by simpa using C) T o_ (fun i f hi=>hf i f (by simpa using hi));simp only[bN,o,aY];refine⟨_,_,u,g1,?_⟩;rw[g2,List.drop_zero,b3 o_]
  ·rename_i m e o;simp only[ao,beq_iff_eq]at h;obtain⟨⟨u,K⟩,L⟩:=h;obtain⟨xs,k,rfl,hx,hlen,C,hf⟩:=trod_array o p;cases hx;have Q:=DY (P:=P) (w:=w) (len:=m) (ak:=P.cellsOf e) (ad:=fun k=>k<w.heap.size) (f:=fun i=>match xs[i]? with
     |some x=>bN P n e x.1
     |none=>.undef) (g:=fun i=>(cs.drop (i*P.cellsOf e)).take (P.cellsOf e)) (l:=bo m) (fun i hi=>by
      have hi:i<m:=cb.1 hi;have N:=hf i hi;rw[bl o_]at N⊢;refine⟨xR n k e _ xs[i].1 xs[i].2 L N,?_⟩;have:(i+1)*P.cellsOf e<=m*P.cellsOf e:=Nat.mul_le_mul_right _ hi;rw[cr]at this;simp;omega)
   have v:((bo m).map fun i=>match xs[i]? with
    |some x=>bN P n e x.1
    |none=>.undef)=(xs.map (·.1)).map (bN P n e):=by
    apply List.ext_getElem
    ·simp[C]
    ·intro i W ac;simp at W;simp[bl (show i<xs.length by omega)]
   rw[v,List.length_range]at Q;simp only[bN,o,aY];refine⟨_,_,u,Q,?_⟩;rw[LR,b3 o_]
  ·cases h
end
open Go.Proofs
def Hc:Array av:=(Lib.pow10Tab.map fun z=>Value.int .u64 z).toArray
def aPX:Nat->Option (Array av)
 |1=>some Hc
 |_=>none
instance Tc:Gl:=⟨fun _=>.undef,5,aPX,fun u=>bif cx u 117 then some 118 else none,fun n=>bif cx n 4 then true else cx n 5⟩
@[simp] theorem ki3:kindOf prog 3=.leaf:=k_
@[simp] theorem Hg:prog.underlying 3=some (.int .i64):=k_
@[simp] theorem tz3:cO prog 3=some (.int .i64 (0)):=k_
@[simp] theorem ki4:kindOf prog 4=.leaf:=k_
@[simp] theorem Hh:prog.underlying 4=some .bool:=k_
@[simp] theorem ib4:sR prog 4=true:=k_
@[simp] theorem tz4:cO prog 4=some (.bool false):=k_
@[simp] theorem tz5:cO prog 5=some (.int .u8 (0)):=k_
@[simp] theorem ki9:kindOf prog 9=.leaf:=k_
@[simp] theorem Hj:prog.underlying 9=some .string:=k_
@[simp] theorem at9:iu prog 9=true:=k_
@[simp] theorem tz9:cO prog 9=some (.str []):=k_
@[simp] theorem aS5:kindOf prog 22=.leaf:=k_
@[simp] theorem aQZ:prog.underlying 22=some (.slice 64):=k_
@[simp] theorem aRu:iu prog 22=true:=k_
@[simp] theorem aRV:cV prog 22=some 2:=k_
@[simp] theorem aSo:ez prog 22=64:=k_
@[simp] theorem aUM:cO prog 22=some (.aH):=k_
@[simp] theorem aS6:kindOf prog 23=.leaf:=k_
@[simp] theorem aQ0:prog.underlying 23=some (.slice 88):=k_
@[simp] theorem aRv:iu prog 23=true:=k_
@[simp] theorem aRX:cV prog 23=some 4:=k_
@[simp] theorem aSq:ez prog 23=88:=k_
@[simp] theorem aS8:kindOf prog 24=.leaf:=k_
@[simp] theorem aQ1:prog.underlying 24=some (.slice 97):=k_
@[simp] theorem aRw:iu prog 24=true:=k_
@[simp] theorem aRZ:cV prog 24=some 3:=k_
@[simp] theorem aSs:ez prog 24=97:=k_
@[simp] theorem aS9:kindOf prog 26=.agg 25:=k_
@[simp] theorem aUl:fZ prog 26=some (25,4):=k_
@[simp] theorem aUN:cO prog 26=some (.st 25 [.aH,.int .i64 (0),.aH,.aH]):=k_
@[simp] theorem aTe:kindOf prog 30=.leaf:=k_
@[simp] theorem aUR:cO prog 30=some (.int .i64 (0)):=k_
@[simp] theorem aTg:kindOf prog 33=.leaf:=k_
@[simp] theorem aRy:iu prog 33=true:=k_
@[simp] theorem aR2:cV prog 33=some 4:=k_
@[simp] theorem aSv:ez prog 33=91:=k_
@[simp] theorem aTh:kindOf prog 34=.leaf:=k_
@[simp] theorem aRz:iu prog 34=true:=k_
@[simp] theorem aR3:cV prog 34=some 3:=k_
@[simp] theorem aSw:ez prog 34=125:=k_
@[simp] theorem aTi:kindOf prog 36=.agg 35:=k_
@[simp] theorem aUn:fZ prog 36=some (35,4):=k_
@[simp] theorem aUT:cO prog 36=some (.st 35 [.aH,.int .i64 (0),.aH,.aH]):=k_
@[simp] theorem aQ2:prog.underlying 48=some (.slice 85):=k_
@[simp] theorem aRA:iu prog 48=true:=k_
@[simp] theorem aR4:cV prog 48=some 3:=k_
@[simp] theorem aSx:ez prog 48=85:=k_
@[simp] theorem aTl:kindOf prog 51=.leaf:=k_
@[simp] theorem aRB:iu prog 51=true:=k_
@[simp] theorem aR5:cV prog 51=some 3:=k_
@[simp] theorem aSy:ez prog 51=86:=k_
@[simp] theorem aTm:kindOf prog 64=.agg 63:=k_
@[simp] theorem aUo:fZ prog 64=some (63,2):=k_
@[simp] theorem aUW:cO prog 64=some (.st 63 [.int .i64 (0),.int .i64 (0)]):=k_
@[simp] theorem aTn:kindOf prog 66=.agg 65:=k_
@[simp] theorem aUp:fZ prog 66=some (65,3):=k_
@[simp] theorem aTo:kindOf prog 70=.agg 65:=k_
@[simp] theorem aUq:fZ prog 70=some (65,3):=k_
@[simp] theorem aUX:cO prog 70=some (.st 65 [.bool false,.int .i64 (0),.st 63 [.int .i64 (0),.int .i64 (0)]]):=k_
@[simp] theorem aTp:kindOf prog 73=.leaf:=k_
@[simp] theorem Hi:prog.underlying 73=some .string:=k_
@[simp] theorem aUY:cO prog 73=some (.str []):=k_
@[simp] theorem aTq:kindOf prog 76=.leaf:=k_
@[simp] theorem aRC:iu prog 76=true:=k_
@[simp] theorem aR6:cV prog 76=some 2:=k_
@[simp] theorem aSz:ez prog 76=106:=k_
@[simp] theorem aUZ:cO prog 76=some (.aH):=k_
@[simp] theorem aTr:kindOf prog 82=.agg 81:=k_
@[simp] theorem aUr:fZ prog 82=some (81,2):=k_
@[simp] theorem aU0:cO prog 82=some (.st 81 [.str [],.str []]):=k_
@[simp] theorem aTs:kindOf prog 85=.agg 84:=k_
@[simp] theorem aUs:fZ prog 85=some (84,2):=k_
@[simp] theorem aU1:cO prog 85=some (.st 84 [.str [],.st 81 [.str [],.str []]]):=k_
@[simp] theorem aTt:kindOf prog 86=.agg 84:=k_
@[simp] theorem aUt:fZ prog 86=some (84,2):=k_
@[simp] theorem aU2:cO prog 86=some (.st 84 [.str [],.st 81 [.str [],.str []]]):=k_
@[simp] theorem aTu:kindOf prog 88=.agg 87:=k_
@[simp] theorem aUu:fZ prog 88=some (87,4):=k_
@[simp] theorem aU3:cO prog 88=some (.st 87 [.str [],.int .i64 (0),.str [],.str []]):=k_
@[simp] theorem aTw:kindOf prog 91=.agg 87:=k_
@[simp] theorem aUv:fZ prog 91=some (87,4):=k_
@[simp] theorem aU5:cO prog 91=some (.st 87 [.str [],.int .i64 (0),.str [],.str []]):=k_
@[simp] theorem aTx:kindOf prog 97=.agg 84:=k_
@[simp] theorem aUw:fZ prog 97=some (84,2):=k_
@[simp] theorem aU6:cO prog 97=some (.st 84 [.str [],.st 81 [.str [],.str []]]):=k_
@[simp] theorem aSW:kindOf prog 106=.agg 106:=k_
@[simp] theorem aUF:cO prog 106=some (.st 106 [.int .i64 (0),.int .i64 (0)]):=k_
@[simp] theorem aRR:cV prog 109=some 2:=k_
@[simp] theorem aSk:ez prog 109=82:=k_
@[simp] theorem aSX:kindOf prog 116=.leaf:=k_
@[simp] theorem aRS:cV prog 116=some 1:=k_
@[simp] theorem aSl:ez prog 116=5:=k_
@[simp] theorem aSY:kindOf prog 118=.agg 117:=k_
@[simp] theorem aUh:fZ prog 118=some (117,2):=k_
@[simp] theorem aUG:cO prog 118=some (.st 117 [.dX,.aH]):=k_
@[simp] theorem aSZ:kindOf prog 125=.agg 84:=k_
@[simp] theorem aUi:fZ prog 125=some (84,2):=k_
@[simp] theorem aUH:cO prog 125=some (.st 84 [.str [],.st 81 [.str [],.str []]]):=k_
@[simp] theorem aRt:iu prog 140=true:=k_
@[simp] theorem aRT:cV prog 140=some 1:=k_
@[simp] theorem aSm:ez prog 140=9:=k_
@[simp] theorem aS0:kindOf prog 161=.leaf:=k_
@[simp] theorem aRU:cV prog 161=some 1:=k_
@[simp] theorem aSn:ez prog 161=307:=k_
@[simp] theorem aS1:kindOf prog 163=.agg 162:=k_
@[simp] theorem aUj:fZ prog 163=some (162,2):=k_
@[simp] theorem aUI:cO prog 163=some (.st 162 [.int .i64 (0),.aH]):=k_
@[simp] theorem aS2:kindOf prog 165=.agg 164:=k_
@[simp] theorem aUk:fZ prog 165=some (164,2):=k_
@[simp] theorem aUJ:cO prog 165=some (.st 164 [.st 162 [.int .i64 (0),.aH],.st 162 [.int .i64 (0),.aH]]):=k_
@[simp] theorem aS3:kindOf prog 167=.agg 166:=k_
@[simp] theorem aRq:iQ prog 167=some (166,2):=k_
@[simp] theorem aUK:cO prog 167=some (.st 166 [.st 164 [.st 162 [.int .i64 (0),.aH],.st 162 [.int .i64 (0),.aH]],.st 164 [.st 162 [.int .i64 (0),.aH],.st 162 [.int .i64 (0),.aH]]]):=k_
@[simp] theorem aS4:kindOf prog 178=.agg 178:=k_
@[simp] theorem aRr:iQ prog 178=some (178,2):=k_
@[simp] theorem aUL:cO prog 178=some (.st 178 [.st 166 [.st 164 [.st 162 [.int .i64 (0),.aH],.st 162 [.int .i64 (0),.aH]],.st 164 [.st 162 [.int .i64 (0),.aH],.st 162 [.int .i64 (0),.aH]]],.st 166 [.st 164 [.st 162 [.int .i64 (0),.aH],.st 162 [.int .i64 (0),.aH]],.st 164 [.st 162 [.int .i64 (0),.aH],.st 162 [.int .i64 (0),.aH]]]]):=k_
@[simp] theorem aRW:cV prog 225=some 1:=k_
@[simp] theorem aSp:ez prog 225=30:=k_
@[simp] theorem aS7:kindOf prog 238=.leaf:=k_
@[simp] theorem aRY:cV prog 238=some 1:=k_
@[simp] theorem aSr:ez prog 238=73:=k_
@[simp] theorem aTa:kindOf prog 274=.agg 274:=k_
@[simp] theorem aUO:cO prog 274=some (.st 274 [.str [],.str []]):=k_
@[simp] theorem aTb:kindOf prog 289=.leaf:=k_
@[simp] theorem aRx:iu prog 289=true:=k_
@[simp] theorem aR0:cV prog 289=some 1:=k_
@[simp] theorem aSt:ez prog 289=3:=k_
@[simp] theorem aTc:kindOf prog 291=.agg 290:=k_
@[simp] theorem aUm:fZ prog 291=some (290,2):=k_
@[simp] theorem aUP:cO prog 291=some (.st 290 [.bool false,.aH]):=k_
@[simp] theorem aTf:kindOf prog 307=.leaf:=k_
@[simp] theorem aUS:cO prog 307=some (.int .u64 (0)):=k_
@[simp] theorem aR1:cV prog 318=some 1:=k_
@[simp] theorem aSu:ez prog 318=22:=k_
@[simp] theorem aTj:kindOf prog 382=.agg 381:=k_
@[simp] theorem aRs:iQ prog 382=some (381,256):=k_
@[simp] theorem aQG:dY prog 25=some [1,1,1,1]:=k_
@[simp] theorem aUE:dY prog 35=some [1,1,1,1]:=k_
@[simp] theorem aQH:dY prog 63=some [1,1]:=k_
@[simp] theorem aQI:dY prog 65=some [1,1,2]:=k_
@[simp] theorem aQJ:dY prog 81=some [1,1]:=k_
@[simp] theorem UO:dY prog 84=some [1,2]:=k_
@[simp] theorem aQK:dY prog 87=some [1,1,1,1]:=k_
@[simp] theorem aUx:dY prog 106=some [1,1]:=k_
@[simp] theorem aUy:dY prog 162=some [1,1]:=k_
@[simp] theorem aUz:dY prog 164=some [2,2]:=k_
@[simp] theorem aUA:dY prog 166=some [4,4]:=k_
@[simp] theorem aUB:dY prog 178=some [8,8]:=k_
@[simp] theorem aUC:dY prog 274=some [1,1]:=k_
@[simp] theorem aUD:dY prog 290=some [1,1]:=k_
section
variable{H:Type}{w:a0}{ad:Nat->Prop}
theorem HL{P:aT}:∀{l:List Nat}{d:List PV}{b:List (List av)},bm P w ad l d b->∀e∈d,∃c,aY P w ad e c
 |_,[],_,_=>fun e a=>by cases a
 |[],v::vs,_,h=>by simp[bm]at h
 |n::i,v::vs,b,h=>by
  simp only[bm]at h;obtain⟨c,cs,_,f,_,g⟩:=h;intro e a;rcases b2.1 a with rfl|a
  ·exact⟨c,f⟩
  ·exact HL g e a
theorem wC{n:Nat}(d:ay H)(c)(h:aY prog w ad (bN prog (n+1) 3 d) c):∃z:Int,bN prog (n+1) 3 d=.int .i64 z:=by
 cases d with
 |lit l=>
  cases l with
  |int k z=>
   simp only[bN,Hg]at h⊢
   split at h
   ·rename_i a;rw[if_pos a];exact⟨_,rfl⟩
   ·simp only[aY]at h
  |_=>simp only[bN,Hg,aY]at h
 |_=>simp only[bN,Hg,aY]at h
end
theorem AH{P:aT}{W:a0}{name:String}{d:ay Unit}:∀{l:List (String×ay Unit)}{b:List ap},DataW.LaidVars P W l b->(name,d)∈l->
 ∃g t cs a p,P.globalNamed name=some g/\(P.globals[g]?).map (·.type)=some t/\W.var? P name=some cs/\a2 (fun _=>()) P W 0 (fun _=>true) false a t cs.toList=some (d,p)/\∀x∈a5 ⟨g,0,none⟩ cs.size,x∈b
 |[],_,_,h=>by cases h
 |(n,d0)::r,b,h,hm=>by
  obtain⟨g,t,cs,a,p,q,j,k,m,o,s,rfl⟩:=h;rcases b2.1 hm with e|hm
  ·cases e;exact⟨g,t,cs,a,p,j,k,m,o,fun x hx=>by simp[hx]⟩
  ·obtain⟨i,v,c,f,u,k1,k2,k3,k4,k5⟩:=AH s hm;exact⟨i,v,c,f,u,k1,k2,k3,k4,fun x hx=>by simp[k5 x hx]⟩
open Go.Proofs Go.Proofs.YtfdgnogcckoalaaGreatDoor
theorem NG:prog.globalNamed "internal/strconv.uint64pow10" =some 1:=k_
theorem YK:((Rows.tableKeepsUptoRow.laid).filter fun x=>x.2.handleName?.isSome)=[]:=k_
theorem aPO:(prog.globals[1]?).map (·.type)=some 366:=k_
theorem aPP:prog.underlying 366=some (.array 20 307):=k_
theorem aPM:prog.underlying 307=some (.int .u64):=k_
theorem aPK:prog.cellsOf 307=1:=k_
theorem aPL:prog.cellsOf 366=20:=k_
theorem S6:(match prog.underlying 120 with|some (.interface _)=>true|_=>false)=true:=k_
theorem IJ{W:a0}{t:ax}{cs:List av}{b:Nat}{n:String}{d:ay Unit}{p:List ap}(a:(match prog.underlying t with|some (.interface _)=>true|_=>false)=true)
 (h:a2 (fun _=>()) prog W 0 (fun _=>true) false b t cs=some (.iface n d,p)):∃u v,cs=[.iface u v]:=by
 cases hu:prog.underlying t with
 |none=>rw[hu]at a;cases a
 |some D=>
  rw[hu]at a;cases D<;>(try (cases a;done))
  cases b with
  |zero=>simp[a2]at h
  |succ b=>
   rcases cs with _|⟨c,_|⟨c2,r⟩⟩
   ·simp[a2,hu]at h
   ·cases c<;>first|exact⟨_,_,rfl⟩|simp[a2,hu]at h
   ·cases c<;>simp[a2,hu]at h
theorem IE:prog.globalNamed "strconv.ErrSyntax" =some 4:=k_
theorem I9:prog.globalNamed "strconv.ErrRange" =some 5:=k_
theorem aQF:(prog.globals[4]?).map (·.type)=some 120:=k_
theorem aQa:(prog.globals[5]?).map (·.type)=some 120:=k_
theorem aLh{W:a0}(h:laidMetH prog Rows.tableKeepsUptoRow.laid W):nT prog W (fun k=>k<W.heap.size):=by
 unfold laidMetH at h;rw[YK]at h;obtain⟨q,i,_,j⟩:=h;obtain⟨g,t,cs,fuel,p,k1,k2,k3,k4,k5⟩:=AH (name:= "internal/strconv.uint64pow10") (d:=Lib.tabData .u64 Lib.pow10Tab) i (by
  show _∈[_,_,_,_,_,_,_];exact bi _ (bi _ bk))
 rw[NG]at k1;cases k1;rw[aPO]at k2;cases k2;have b:=Lib.cells_of_tab aPP aPM aPK aPL k4;have l:cs=Hc:=by rw[Hc,<-b]
 have n:0<cs.size:=by rw[l];decide
 obtain⟨⟨c,T,a⟩,_⟩:=j 1 0 (k5 _ (by simp[a5];exact n));refine⟨fun g=>by simp[aC,Gl.g],fun g o f=>?_,fun g f=>?_⟩
 ·match g,f with
  |1,f=>
   cases f;refine⟨(am.1 a).1,T,?_⟩;simp only[bb,NG,cy,a,c6]at k3;rw[a,k3,l]
 ·have m:g=4\/g=5:=by
   simp only[Gl.Cm,Tc,Bool.cond_eq_ite]at f
   split at f
   ·rename_i e;exact .inl (cv e)
   ·exact .inr (cv f)
  rcases m with rfl|rfl
  ·obtain⟨g,t,cs,fuel,p,k1,k2,k3,k4,k5⟩:=AH (name:= "strconv.ErrSyntax") (d:=Rows.laid_strconv_ErrSyntax) i (by
    show _∈[_,_,_,_,_,_,_]
    iterate 5 refine bi _ ?_
    exact bk)
   rw[IE]at k1;cases k1;rw[aQF]at k2;cases k2;obtain⟨u,v,hc⟩:=IJ S6 k4;have b:cs=#[.iface u v]:=by rw[<-hc]
   obtain⟨⟨c,T,a⟩,_⟩:=j 4 0 (k5 _ (by simp[a5,b]));refine⟨(am.1 a).1,u,v,T,?_⟩;simp only[bb,IE,cy,a,c6]at k3;rw[a,k3,b]
  ·obtain⟨g,t,cs,fuel,p,k1,k2,k3,k4,k5⟩:=AH (name:= "strconv.ErrRange") (d:=Rows.laid_strconv_ErrRange) i (by
    show _∈[_,_,_,_,_,_,_]
    iterate 4 refine bi _ ?_
    exact bk)
   rw[I9]at k1;cases k1;rw[aQa]at k2;cases k2;obtain⟨u,v,hc⟩:=IJ S6 k4;have b:cs=#[.iface u v]:=by rw[<-hc]
   obtain⟨⟨c,T,a⟩,_⟩:=j 5 0 (k5 _ (by simp[a5,b]));refine⟨(am.1 a).1,u,v,T,?_⟩;simp only[bb,I9,cy,a,c6]at k3;rw[a,k3,b]
section
variable[Gl]{P:aT}
theorem awp{f:FuncId}{args:List PV}{v:PV}(g:Enters P f)(h:az P f args v){w:a0}{ad:Nat->Prop}{a:List av}(d:∀k,ad k->k<w.heap.size)(i:nT P w ad)(c:bu P w ad args a):
 Calls P f a.toArray w fun e w'=>∃b,∃aF:Nat->Prop,e=.returned b/\w.heap.size<=w'.heap.size/\(∀k,k<w.heap.size->w'.heap[k]?=w.heap[k]?)/\(w'.os=w.os/\w'.output=w.output)/\aC P w' aF v b:=by
 rcases h with h|h
 ·refine(h.2 w ad a d i c).mono ?_;rintro e w' ⟨b,aF,k1,_,_,_,k5,k6,j,k7⟩;exact⟨b,aF,k1,k5,k6,j,k7⟩
 ·obtain⟨b,k1,_⟩:=h w ad a c;rw[g a.toArray w]at k1;cases k1
theorem aOt{w w':a0}(h:∀k,k<w.heap.size->w'.heap[k]?=w.heap[k]?)(a:w'.os=w.os/\w'.output=w.output)(b:ap->Prop):w.keptBut w' b:=by
 refine⟨a.1,a.2,fun i hi=>?_⟩;rw[h i hi];cases w.heap[i]? with
 |none=>rfl
 |some o=>cases o<;>first|exact⟨rfl,rfl,rfl,fun _ _=>rfl⟩|exact .inr ⟨rfl,rfl⟩|rfl
theorem aQf{w w':a0}(h:∀k,k<w.heap.size->w'.heap[k]?=w.heap[k]?){p:ap}(a:p.block<w.heap.size):w.sameAt w' p:=by
 cases p with
 |cell b o=>simp only[be,a9];rw[h b a]
 |map b=>simp only[be];rw[h b a]
theorem Y7{H:Type}{e:ax×av->H}{f:Func}{s:a1}{apart fresh handsOn:Bool}{W c:a0}{args:Array av}{v:av}{d g:List (ay H)}{a pa pv:List ap}
 (j:a4 e P f.params.toList s.vars apart W args.toList d g a)
 (o:∀(b:Nat)(sp:Nat->Bool)(m:Bool),a3 e P c b sp m f.resultTypes.toList (v.resultList f.resultTypes.size) (s.fn H (d++g)).results [])
 (l:∀sp:Nat->Bool,(∀p∈a,sp p.block=true)->a3 e P c 0 sp true f.params.toList args.toList (s.fn H (d++g)).args pa)
 (q:∀sp:Nat->Bool,(∀p∈a,sp p.block=true)->DataW.TrodVars e P c sp s.vars (s.fn H (d++g)).vars pv)
 (n:a=pa++pv)(hk:W.keptBut c (·∈a)):s.post e P f apart fresh handsOn false W args v c:=by
 have k:∀p∈a,(fun b=>decide (b<W.heap.size)) p.block=true:=fun p i=>by simpa using j.lt p i
 refine⟨d,g,a,[],pa,pv,j,o _ _ _,l _ k,q _ k,World.keptBut_mono (fun p i=>⟨i,?_⟩) hk,fun h=>by cases h⟩;rw[n,List.mem_append]at i;exact Or.inr i
end
section
variable{H:Type}{enc:ax×av->H}{P:aT}{w:a0}
theorem auY{n:Nat}{t:ax}{d:ay H}{cs:List av}{ad:Nat->Prop}(h:aY P w ad (bN P n t d) cs):
 (((∃fs,P.underlying t=some (.struct fs))\/∃m e,P.underlying t=some (.array m e))/\∃u,aP (bN P n t d)=.agg u)\/((P.underlying t=some .bool\/(∃k,P.underlying t=some (.int k))\/P.underlying t=some .string\/∃e,P.underlying t=some (.slice e))/\aP (bN P n t d)=.leaf):=by
 cases n with
 |zero=>simp only[bN,aY]at h
 |succ n=>
  unfold bN at h⊢
  split at h
  ·rename_i a;exact .inr ⟨.inl a,rfl⟩
  ·rename_i k z a
   split at h
   ·rename_i b;rw[if_pos b];exact .inr ⟨.inr (.inl ⟨_,a⟩),rfl⟩
   ·simp only[aY]at h
  ·rename_i a;exact .inr ⟨.inr (.inr (.inl a)),rfl⟩
  ·rename_i a;exact .inr ⟨.inr (.inr (.inr ⟨_,a⟩)),rfl⟩
  ·rename_i a;exact .inr ⟨.inr (.inr (.inr ⟨_,a⟩)),rfl⟩
  ·rename_i a;exact .inl ⟨.inl ⟨_,a⟩,_,rfl⟩
  ·rename_i a;exact .inl ⟨.inr ⟨_,_,a⟩,_,rfl⟩
  ·simp only[aY]at h
theorem auW[Gl]{n:Nat}{t:ax}{v:av}{d:ay H}{f:List ap}{g i:Nat}{r:Reach}(j:mv P n t=true)(h:DataW.Trod enc P w g (fun _=>true) true t v d f)(b:a6 P w r i t v):
 aC P w (fun k=>k<w.heap.size) (bN P n t d) v:=by
 obtain⟨fuel,h⟩:=h;have hc:=xR n fuel t _ d f j h;rcases auY hc with⟨a,u,hs⟩|⟨a,hs⟩
 ·have:∃cs,v=.agg cs:=by
   rcases a with⟨fs,a⟩|⟨m,e,a⟩
   ·simp only[a6,a]at b;obtain⟨cs,rfl,_,_⟩:=b;exact⟨cs,rfl⟩
   ·simp only[a6,a]at b;obtain⟨cs,rfl,_,_⟩:=b;exact⟨cs,rfl⟩
  obtain⟨cs,rfl⟩:=this;rw[ya hs]at hc;simpa[a7]using hc
 ·rw[uP hs]at hc;obtain⟨c,hc,l⟩:=hc;have:v=c:=by
   cases v with
   |agg cs=>rcases a with a|⟨k,a⟩|a|⟨e,a⟩<;>simp[a6,a,Cell.okWide,Cell.ok]at b
   |_=>simpa[a7]using hc
  rw[this];exact l
def th(P:aT)(n:Nat):List ax->List (ay H)->List PV
 |t::ts,d::ds=>bN P n t d::th P n ts ds
 |_,_=>[]
theorem Ek[Gl]{n:Nat}{base:Nat}{r:Reach}:∀{ts:List ax}{vs:List av}{ds:List (ay H)}{h:List ap},(∀t∈ts,mv P n t=true)->a3 enc P w 0 (fun _=>true) true ts vs ds h->
 (∀(j:Nat) t v,ts[j]?=some t->vs[j]?=some v->a6 P w r base t v)->bu P w (fun k=>k<w.heap.size) (th P n ts ds) vs/\ds.length=ts.length
 |[],[],[],_,_,_,_=>by simp[th,bu]
 |t::ts,v::vs,d::ds,_,b,⟨p,q,e,f,_⟩,c=>by
  have⟨i1,i2⟩:=Ek (ts:=ts) (vs:=vs) (ds:=ds) (fun t a=>b t (bi _ a)) f (fun j t v a g=>c (j+1) t v (by simpa using a) (by simpa using g));refine⟨?_,by simp[i2]⟩;simp only[th,bu];exact⟨v,vs,rfl,auW (b t bk) e (c 0 t v rfl rfl),i1⟩
theorem Ol{n:Nat}:∀{ts:List ax}{vs:List av}{ds:List (ay H)}{g:List ap},(∀t∈ts,mv P n t=true)->a3 enc P w 0 (fun _=>true) true ts vs ds g->
 ∀p∈ts.zip ds,∃cs,aY P w (fun k=>k<w.heap.size) (bN P n p.1 p.2) cs
 |[],[],[],_,_,_=>by simp
 |t::ts,v::vs,d::ds,_,a,⟨p,q,⟨fuel,b⟩,c,_⟩=>by
  have f:=Ol (ts:=ts) (vs:=vs) (ds:=ds) (fun t e=>a t (bi _ e)) c;intro x hx;rw[b4]at hx;rcases b2.1 hx with rfl|hx
  ·exact⟨_,xR n fuel t _ d p (a t bk) b⟩
  ·exact f x hx
theorem Lv{w':a0}{f:Nat}{g:Nat->Bool}{held:Bool}:∀{c:List ax}{vs:List av}{a:List (ay H)}{b:List ap},a3 enc P w f g held c vs a b->(∀p∈b,w.sameAt w' p)->
 a3 enc P w' f g held c vs a b
 |[],[],[],_,h,_=>h
 |t::c,v::vs,d::a,_,⟨p,q,⟨n,i⟩,j,e⟩,hs=>by
  subst e;exact⟨p,q,⟨n,DataW.trod_carry n _ _ _ i fun x hx=>hs x (List.mem_append_left _ hx)⟩,Lv j fun x hx=>hs x (List.mem_append_right _ hx),rfl⟩
theorem XN[Gl]{f:FuncId}{fn:Func}{s:a1}{n:Nat}{T:ax->Prop}(u:s.vars=[])(D:∀(H:Type)(a:List (ay H)),a.length=fn.params.size->(s.fn H a).results=[.lit (.bool true)]/\(s.fn H a).args=a/\(s.fn H a).vars=[])
 (K:Kids P T)(O:∀t e,T t->P.underlying t=some (.slice e)->0<P.cellsOf e)(z:∀t∈fn.params.toList,T t)(r:∀t∈fn.params.toList,mv P n t=true){tb:ax}(J:fn.resultTypes=#[tb])(B:P.underlying tb=some .bool)
 (C:Enters P f){W:a0}{args:Array av}{a c:List (ay H)}{y:List ap}{w:Nat}(E:nT P W (fun k=>k<W.heap.size))
 (F:(∀p∈fn.params.toList.zip a,∃cs,aY P W (fun k=>k<W.heap.size) (bN P n p.1 p.2) cs)->az P f (th P n fn.params.toList a) (.bool true))
 (N:∀(j:Nat) t v,fn.params[j]?=some t->args[j]?=some v->a6 P W .any w t v)
 (o:a4 enc P fn.params.toList s.vars false W args.toList a c y):
 Calls P f args W fun e l=>∃v,e=.returned v/\s.post enc P fn false true false false W args v l:=by
 have A:=o;obtain⟨p,q,d,h,rfl,R,S⟩:=o;rw[u]at h;have⟨i,hlen⟩:=Ek r d (fun j t v L M=>N j t v (by simpa using L) (by simpa using M));have G:c=[]/\q=[]:=by
  cases c with
  |nil=>exact⟨rfl,h⟩
  |cons g c=>exact h.elim
 obtain⟨rfl,rfl⟩:=G;have hc:=awp C (F (Ol r d)) (fun k hk=>hk) E i;refine hc.mono ?_;rintro e l ⟨m,aF,rfl,k1,k2,k3,k4⟩;refine⟨m,rfl,?_⟩;obtain⟨f1,f2,f3⟩:=D H (a++[]) (by simpa using hlen);have e1:m=.bool true:=by simpa[aC]using k4
 have I:=DataW.TrodAll.lt d;refine Y7 (pa:=p) (pv:=[]) A ?_ ?_ ?_ rfl (aOt k2 k3 _)
 ·intro b sp Q;rw[f1,J,e1];refine⟨[],[],⟨1,?_⟩,rfl,rfl⟩;simp[a2,B,a7]
 ·intro sp hs;rw[f2];simp only[List.append_nil]at hs⊢;exact Lv (DataW.TrodAll.respare K O z d fun p i=>hs p i) fun x hx=>aQf k2 (I x hx)
 ·intro sp hs;rw[f3,u];rfl
end
end Go.an
