import Derived.Test.YtdjojlnnobkliaaGreatDoorTThC
import Derived.Deep.Slices
import Derived.Test.YtdjojlnnobkliaaGreatDoorProg
import Derived.KernelRfl
import Derived.Lib.ItoaNum
import Derived.Test.YtdjojlnnobkliaaGreatDoorRows
import Derived.Lib.LaidTab
import Derived.ReadAgain
import Derived.ChangeOld
import Derived.RowKit3
import Derived.ChangeSame
import Derived.WideShapes
/- Parts of a proof. -/
set_option maxRecDepth 100000
set_option linter.unusedSimpArgs false
set_option linter.unusedVariables false
set_option linter.unusedSectionVars false
open Go.Proofs.Tryz
open Array renaming getElem?_eq_some_iff->am
open Bool renaming and_eq_true->ao
open Go renaming MemPlace->av, Value->ax, TypeId->ay, DataW->aT, Program->a0, World->a1, ChangeSpec->a2
open Go.DataW renaming trod->a3, TrodAll->a4, Whole->a5
open Go.MemPlace renaming row->a6
open Go.Value renaming okWide->a7, cells->a8
open Go.World renaming cells?_some->a9, cell?->bb, var?->be, sameAt->bf
open List renaming mem_cons_of_mem->bi, mem_cons_self->bl, getElem?_eq_getElem->bo, range->bv, flatten_append->bw, map_cons->b0, range_succ->b1, map_append->b2, mem_cons->b3, take_of_length_le->b4, zip_cons_cons->b5, replicate->cb, mem_range->cc, take_add->cd, sum_cons->ce
open Nat renaming succ_mul->ck, eq_of_beq_eq_true->cx, beq->cy
open Option renaming bind_some->c6
open Option.some renaming injEq->c9
namespace Go.ag
open Go.Deep
section
variable{H:Type}
def bS(P:a0):Nat->ay->aT H->PV
 |0,_,_=>.undef
 |n+1,t,d=>match P.underlying t,d with
  |some .bool,.lit (.bool b)=>.bool b
  |some (.int k),.lit (.int _ z)=>if(Lit.int k z).wf=true then .int k z else .undef
  |some .string,.lit (.string s)=>.str (s.map (·.toNat))
  |some (.slice e),.slice ds _=>.seq (ds.map (bS P n e))
  |some (.slice _),.nil=>.seq []
  |some (.struct fs),.agg ds=>.st (P.underlyingId t) ((fs.toList.zip ds).map fun p=>bS P n p.1.type p.2)
  |some (.array _ e),.agg ds=>.st (P.underlyingId t) (ds.map (bS P n e))
  |_,_=>.undef
def DA(P:a0):Nat->List Field->Bool
 |_,[]=>true
 |o,f::fs=>(f.offset==o)&&DA P (o+P.cellsOf f.type) fs
def nM(P:a0):Nat->ay->Bool
 |0,_=>false
 |n+1,t=>match P.underlying t with
  |some .bool|some (.int _)|some .string=>true
  |some (.slice e)=>nM P n e&&decide (0<P.cellsOf e)
  |some (.struct fs)=>(dS P (P.underlyingId t)==some (fs.toList.map fun f=>P.cellsOf f.type))&&DA P 0 fs.toList&&(((fs.toList.map fun f=>P.cellsOf f.type).sum)==P.cellsOf t)&&fs.toList.all fun f=>nM P n f.type
  |some (.array m e)=>(dS P (P.underlyingId t)==some (cb m (P.cellsOf e)))&&(m*P.cellsOf e==P.cellsOf t)&&nM P n e
  |_=>false
variable{enc:ay×ax->H}{P:a0}{w:a1}{base:Nat}{held:Bool}
theorem RP{n k:Nat}{ad:Nat->Prop}(l:∀t cs d u,nM P n t=true->a3 enc P w base (fun _=>true) held k t cs=some (d,u)->bd P w ad (bS P n t d) cs):
 ∀(fs:List Field)(a:List (aT H×List av))(o:Nat)(cs:List ax),DA P o fs=true->a.length=fs.length->(∀f∈fs,nM P n f.type=true)->o+(fs.map fun f=>P.cellsOf f.type).sum<=cs.length->
  (∀(i:Nat)(f:Field),fs[i]?=some f->a3 enc P w base (fun _=>true) held k f.type ((cs.drop f.offset).take (P.cellsOf f.type))=a[i]?)->
  bt P w ad (fs.map fun f=>P.cellsOf f.type) ((fs.zip (a.map (·.1))).map fun p=>bS P n p.1.type p.2) (fs.map fun f=>(cs.drop f.offset).take (P.cellsOf f.type))/\
   (fs.map fun f=>(cs.drop f.offset).take (P.cellsOf f.type)).flatten=(cs.drop o).take (fs.map fun f=>P.cellsOf f.type).sum
 |[],a,o,cs,_,b,_,_,_=>by
  have:a=[]:=by simpa using b
  subst this;simp[bt]
 |f::fs,[],o,cs,_,b,_,_,_=>by simp at b
 |f::fs,x::a,o,cs,c,b,h,hlen,hx=>by
  simp only[DA,ao,beq_iff_eq]at c;obtain⟨c,s⟩:=c;simp only[b0,ce]at hlen;have j:=hx 0 f rfl;simp only[List.getElem?_cons_zero]at j;have m:=l _ _ x.1 x.2 (h f bl) j;have⟨q,r⟩:=RP l fs a (o+P.cellsOf f.type) cs s (by simpa using b) (fun g e=>h g (bi _ e)) o_ (fun i g e=>by have:=hx (i+1) g (by simpa using e);simpa using this);refine⟨?_,?_⟩
  ·simp only[b0,b5,bt];exact⟨_,_,rfl,m,by simp[c];omega,q⟩
  ·simp only[b0,List.flatten_cons,ce,r,c];rw[<-List.drop_drop,cd]
theorem FY{ak len:Nat}{ad:Nat->Prop}{f:Nat->PV}{g:Nat->List ax}:∀{l:List Nat},(∀i∈l,bd P w ad (f i) (g i)/\(g i).length=ak)->bt P w ad (cb l.length ak) (l.map f) (l.map g)
 |[],_=>by simp[bt]
 |a::l,h=>by
  simp only[List.length_cons,List.replicate_succ,b0,bt];exact⟨_,_,rfl,(h a bl).1,(h a bl).2,FY (len:=len) fun i hi=>h i (bi _ hi)⟩
theorem trod_array{m:Nat}{e t:ay}{b:Nat}{cs:List ax}{x:aT H×List av}{d:Nat->Bool}(g:P.underlying t=some (.array m e))(h:a3 enc P w base d held b t cs=some x):
 ∃(a:List (aT H×List av))(n:Nat),b=n+1/\x=(.agg (a.map (·.1)),a.flatMap (·.2))/\cs.length=P.cellsOf t/\a.length=m/\
  ∀i,i<m->a3 enc P w base d held n e ((cs.drop (i*P.cellsOf e)).take (P.cellsOf e))=a[i]?:=by
 cases b with
 |zero=>simp[a3]at h
 |succ n=>
  unfold a3 at h;rw[g]at h
  split at h<;>simp_all
  obtain⟨j,a,c,f⟩:=h;exact⟨a,f.symm,by simpa using mapM_some_length c,fun i hi=>mapM_some_get c i i (by simp[hi])⟩
theorem MV{α:Type}{cs:List α}{ak:Nat}:∀m,((bv m).map fun i=>(cs.drop (i*ak)).take ak).flatten=cs.take (m*ak)
 |0=>by simp
 |m+1=>by
  rw[b1,b2,bw,MV m,ck,cd];simp
theorem G3{V:Nat->List ax}{ak:Nat}:∀(len:Nat),(∀i,i<len->(V i).length=ak)->((bv len).map V).flatten.length=len*ak
 |0,_=>by simp
 |len+1,h=>by
  rw[b1,b2,bw,List.length_append,G3 len fun i hi=>h i o_,ck];simp[h len o_]
theorem NA{V:Nat->List ax}{ak b o:Nat}:∀(len:Nat),(∀i,i<len->(V i).length=ak)->(∀i,i<len->∀j,j<ak->w.cell? ⟨b,o+(i*ak+j),none⟩=(V i)[j]?)->jc w b o ((bv len).map V).flatten
 |0,_,_=>by intro i hi;simp at hi
 |len+1,h,hc=>by
  intro i hi;have a:=G3 (V:=V) (ak:=ak) len fun i hi=>h i o_;have c:=NA (V:=V) (ak:=ak) (b:=b) (o:=o) len (fun i hi=>h i o_) (fun i hi=>hc i o_);have e:((bv (len+1)).map V).flatten=((bv len).map V).flatten++V len:=by
   rw[b1,b2,bw];simp
  have f:i<len*ak+ak:=by
   have:=G3 (V:=V) (ak:=ak) (len+1) h;rw[ck]at this;omega
  rw[<-bo hi,e]
  by_cases d:i<len*ak
  ·rw[List.getElem?_append_left o_,bo o_];exact c i o_
  ·rw[List.getElem?_append_right o_,a];have:=hc len o_ (i-len*ak) o_;rw[<-this];congr 3;omega
theorem Ab:∀(n:Nat)(I:Nat)(t:ay)(cs:List ax)(d:aT H)(r:List av),nM P n t=true->a3 enc P w base (fun _=>true) held I t cs=some (d,r)->
 bd P w (fun k=>k<w.heap.size) (bS P n t d) cs
 |0,_,_,_,_,_,h,_=>by simp[nM]at h
 |n+1,I,t,cs,d,r,h,p=>by
  simp only[nM]at h
  split at h
  ·rename_i o;obtain⟨b,rfl,hx⟩:=DataW.trod_bool o p;cases hx;simp[bS,o,bd]
  ·rename_i k o;obtain⟨z,rfl,hx,hz⟩:=DataW.trod_int o p;cases hx;simp[bS,o,hz,bd]
  ·rename_i o;obtain⟨s,rfl,hx,_⟩:=DataW.trod_string o p;cases hx;simp[bS,o,bd]
  ·rename_i e o;simp only[ao,decide_eq_true_eq]at h;obtain⟨v,B⟩:=h;rcases open_slice o p with⟨rfl,hx⟩|⟨a,len,cap,m,k,D,R,rfl,ab,X,ae,N,hx,T⟩
   ·cases hx;simp[bS,o,bd]
   cases hx;simp only[if_true]at N;subst N;obtain⟨V,q⟩:=choose_lt T;have Q:a.spot=none\/m=0:=by
    by_cases hz:m=0
    ·exact .inr hz
    left;obtain⟨c1,_⟩:=q 0 o_;obtain⟨_,c2,c3⟩:=a9 c1;have c4:=c3 0 B;rw[bo o_]at c4;simp only[Addr.add,Nat.zero_mul,if_true]at c4;unfold bb at c4
    split at c4
    ·split at c4
     ·cases c4
     ·rename_i hs;simpa using hs
    ·cases c4
   have L:∀i,i<m->∀j,j<P.cellsOf e->w.cell? ⟨a.block,a.off+(i*P.cellsOf e+j),none⟩=(V i)[j]?:=by
    intro i hi j W;have hs:a.spot=none:=Q.resolve_right o_;obtain⟨_,_,c3⟩:=a9 (q i hi).1;have:=c3 j W;rw[add_add]at this;rw[<-this];obtain⟨E,F,G⟩:=a;simp only at hs;subst hs;unfold Addr.add;split<;>simp_all
   have A:∀i,i<m->(V i).length=P.cellsOf e:=fun i hi=>(a9 (q i hi).1).2.1;simp only[bS,o,bd];right;obtain⟨E,F,G⟩:=a;refine⟨E,F,m,P.cellsOf e,(bv len).map V,?_,?_,?_,by simpa using X,G,Q,s_⟩
   ·have:=FY (P:=P) (w:=w) (len:=len) (ak:=P.cellsOf e) (ad:=fun k=>k<w.heap.size) (f:=fun i=>bS P n e (D i)) (g:=V) (l:=bv len) (fun i hi=>by
     have hi:i<m:=by have:=cc.1 hi;omega
     exact⟨Ab n k e (V i) (D i) (R i) v (q i hi).2,A i hi⟩)
    simpa[Function.comp_def]using this
   ·intro Y;have aa:0<len:=by
     rcases Nat.eq_zero_or_pos len with h|h
     ·subst h;simp at Y
     ·exact h
    have c:=L 0 o_ 0 B;rw[bo (by rw[A 0 o_];exact B)]at c;unfold bb at c
    split at c
    ·rename_i y;exact(am.1 y).1
    ·cases c
   ·exact NA len (fun i hi=>A i o_) (fun i hi=>L i o_)
  ·rename_i fs o;simp only[ao,beq_iff_eq,List.all_eq_true]at h;obtain⟨⟨⟨u,J⟩,K⟩,S⟩:=h;obtain⟨xs,k,rfl,hx,hlen,C,hf⟩:=DataW.trod_struct o p;cases hx;have⟨g1,g2⟩:=RP (ad:=fun k=>k<w.heap.size) (fun t cs d r Z y=>Ab n k t cs d r Z y) fs.toList xs 0 cs J (by simpa using C) S o_ (fun i f hi=>hf i f (by simpa using hi));simp only[bS,o,bd];refine⟨_,_,u,g1,?_⟩;rw[g2,List.drop_zero,b4 o_]
  ·rename_i m e o;simp only[ao,beq_iff_eq]at h;obtain⟨⟨u,J⟩,K⟩:=h;obtain⟨xs,k,rfl,hx,hlen,C,hf⟩:=trod_array o p;cases hx;have O:=FY (P:=P) (w:=w) (len:=m) (ak:=P.cellsOf e) (ad:=fun k=>k<w.heap.size) (f:=fun i=>match xs[i]? with
     |some x=>bS P n e x.1
     |none=>.undef) (g:=fun i=>(cs.drop (i*P.cellsOf e)).take (P.cellsOf e)) (l:=bv m) (fun i hi=>by
      have hi:i<m:=cc.1 hi;have M:=hf i hi;rw[bo o_]at M⊢;refine⟨Ab n k e _ xs[i].1 xs[i].2 K M,?_⟩;have:(i+1)*P.cellsOf e<=m*P.cellsOf e:=Nat.mul_le_mul_right _ hi;rw[ck]at this;simp;omega)
   have v:((bv m).map fun i=>match xs[i]? with
    |some x=>bS P n e x.1
    |none=>.undef)=(xs.map (·.1)).map (bS P n e):=by
    apply List.ext_getElem
    ·simp[C]
    ·intro i U ac;simp at U;simp[bo (show i<xs.length by omega)]
   rw[v,List.length_range]at O;simp only[bS,o,bd];refine⟨_,_,u,O,?_⟩;rw[MV,b4 o_]
  ·cases h
end
open Go.Proofs
def Jh:Array ax:=(Lib.pow10Tab.map fun z=>Value.int .u64 z).toArray
def aQj:Nat->Option (Array ax)
 |5=>some Jh
 |_=>none
instance T3:Gl:=⟨fun _=>.undef,5,aQj,fun u=>bif cy u 358 then some 359 else none,fun n=>bif cy n 3 then true else cy n 4⟩
@[simp] theorem ki3:kindOf prog 3=.leaf:=k_
@[simp] theorem Jk:prog.underlying 3=some (.int .i64):=k_
@[simp] theorem tz3:cF prog 3=some (.int .i64 (0)):=k_
@[simp] theorem ki4:kindOf prog 4=.leaf:=k_
@[simp] theorem ib4:uZ prog 4=true:=k_
@[simp] theorem tz4:cF prog 4=some (.bool false):=k_
@[simp] theorem tz5:cF prog 5=some (.int .u8 (0)):=k_
@[simp] theorem ki9:kindOf prog 9=.leaf:=k_
@[simp] theorem Jm:prog.underlying 9=some .string:=k_
@[simp] theorem at9:jO prog 9=true:=k_
@[simp] theorem tz9:cF prog 9=some (.str []):=k_
@[simp] theorem aUa:kindOf prog 22=.leaf:=k_
@[simp] theorem aRo:prog.underlying 22=some (.slice 202):=k_
@[simp] theorem aSn:jO prog 22=true:=k_
@[simp] theorem aSO:c7 prog 22=some 2:=k_
@[simp] theorem aTb:fy prog 22=202:=k_
@[simp] theorem aUb:kindOf prog 23=.leaf:=k_
@[simp] theorem aRp:prog.underlying 23=some (.slice 83):=k_
@[simp] theorem aSQ:c7 prog 23=some 4:=k_
@[simp] theorem aUd:kindOf prog 24=.leaf:=k_
@[simp] theorem aRq:prog.underlying 24=some (.slice 146):=k_
@[simp] theorem aSS:c7 prog 24=some 3:=k_
@[simp] theorem aUf:kindOf prog 26=.agg 25:=k_
@[simp] theorem aVP:fB prog 26=some (25,4):=k_
@[simp] theorem aUg:kindOf prog 27=.leaf:=k_
@[simp] theorem aRr:prog.underlying 27=some (.slice 77):=k_
@[simp] theorem aST:c7 prog 27=some 3:=k_
@[simp] theorem aUi:kindOf prog 29=.agg 28:=k_
@[simp] theorem aVQ:fB prog 29=some (28,4):=k_
@[simp] theorem aUk:kindOf prog 30=.leaf:=k_
@[simp] theorem Jl:prog.underlying 30=some .string:=k_
@[simp] theorem aWu:cF prog 30=some (.str []):=k_
@[simp] theorem aUl:kindOf prog 32=.agg 31:=k_
@[simp] theorem aVR:fB prog 32=some (31,2):=k_
@[simp] theorem aWv:cF prog 32=some (.st 31 [.str [],.str []]):=k_
@[simp] theorem aUq:kindOf prog 36=.leaf:=k_
@[simp] theorem aSp:jO prog 36=true:=k_
@[simp] theorem aSW:c7 prog 36=some 1:=k_
@[simp] theorem aTg:fy prog 36=3:=k_
@[simp] theorem aUr:kindOf prog 37=.leaf:=k_
@[simp] theorem aWz:cF prog 37=some (.int .i64 (0)):=k_
@[simp] theorem aUt:kindOf prog 40=.leaf:=k_
@[simp] theorem aSq:jO prog 40=true:=k_
@[simp] theorem aSX:c7 prog 40=some 4:=k_
@[simp] theorem aTh:fy prog 40=131:=k_
@[simp] theorem aUv:kindOf prog 41=.leaf:=k_
@[simp] theorem aSr:jO prog 41=true:=k_
@[simp] theorem aSY:c7 prog 41=some 3:=k_
@[simp] theorem aTi:fy prog 41=147:=k_
@[simp] theorem aUw:kindOf prog 43=.agg 42:=k_
@[simp] theorem aVT:fB prog 43=some (42,4):=k_
@[simp] theorem aWB:cF prog 43=some (.st 42 [.aI,.int .i64 (0),.aI,.aI]):=k_
@[simp] theorem aUx:kindOf prog 44=.leaf:=k_
@[simp] theorem aSs:jO prog 44=true:=k_
@[simp] theorem aSZ:c7 prog 44=some 3:=k_
@[simp] theorem aTj:fy prog 44=91:=k_
@[simp] theorem aUy:kindOf prog 59=.agg 58:=k_
@[simp] theorem aVU:fB prog 59=some (58,3):=k_
@[simp] theorem aWD:cF prog 59=some (.st 58 [.str [],.str [],.str []]):=k_
@[simp] theorem aUz:kindOf prog 61=.agg 60:=k_
@[simp] theorem aWE:cF prog 61=some (.st 60 [.st 58 [.str [],.str [],.str []],.st 58 [.str [],.str [],.str []]]):=k_
@[simp] theorem aUA:kindOf prog 72=.agg 60:=k_
@[simp] theorem aVV:fB prog 72=some (60,2):=k_
@[simp] theorem aWF:cF prog 72=some (.st 60 [.st 58 [.str [],.str [],.str []],.st 58 [.str [],.str [],.str []]]):=k_
@[simp] theorem aUB:kindOf prog 77=.agg 76:=k_
@[simp] theorem aVW:fB prog 77=some (76,2):=k_
@[simp] theorem aWG:cF prog 77=some (.st 76 [.str [],.st 31 [.str [],.str []]]):=k_
@[simp] theorem aUC:kindOf prog 83=.agg 82:=k_
@[simp] theorem aVX:fB prog 83=some (82,4):=k_
@[simp] theorem aWH:cF prog 83=some (.st 82 [.str [],.int .i64 (0),.str [],.str []]):=k_
@[simp] theorem aSt:jO prog 87=true:=k_
@[simp] theorem aS0:c7 prog 87=some 1:=k_
@[simp] theorem aTk:fy prog 87=9:=k_
@[simp] theorem aUE:kindOf prog 91=.agg 76:=k_
@[simp] theorem aVY:fB prog 91=some (76,2):=k_
@[simp] theorem aWJ:cF prog 91=some (.st 76 [.str [],.st 31 [.str [],.str []]]):=k_
@[simp] theorem aTU:kindOf prog 119=.leaf:=k_
@[simp] theorem aTV:kindOf prog 120=.leaf:=k_
@[simp] theorem aSM:c7 prog 120=some 1:=k_
@[simp] theorem aS9:fy prog 120=329:=k_
@[simp] theorem aTW:kindOf prog 122=.agg 121:=k_
@[simp] theorem aVB:fB prog 122=some (121,2):=k_
@[simp] theorem aWe:cF prog 122=some (.st 121 [.int .i64 (0),.aI]):=k_
@[simp] theorem aTX:kindOf prog 124=.agg 123:=k_
@[simp] theorem aVC:fB prog 124=some (123,2):=k_
@[simp] theorem aWf:cF prog 124=some (.st 123 [.st 121 [.int .i64 (0),.aI],.st 121 [.int .i64 (0),.aI]]):=k_
@[simp] theorem aTY:kindOf prog 126=.agg 125:=k_
@[simp] theorem aVD:fB prog 126=some (125,4):=k_
@[simp] theorem aWg:cF prog 126=some (.st 125 [.st 42 [.aI,.int .i64 (0),.aI,.aI],.aI,.gu,.st 123 [.st 121 [.int .i64 (0),.aI],.st 121 [.int .i64 (0),.aI]]]):=k_
@[simp] theorem aTZ:kindOf prog 131=.agg 82:=k_
@[simp] theorem aVE:fB prog 131=some (82,4):=k_
@[simp] theorem aWh:cF prog 131=some (.st 82 [.str [],.int .i64 (0),.str [],.str []]):=k_
@[simp] theorem aT0:kindOf prog 142=.agg 141:=k_
@[simp] theorem aVF:fB prog 142=some (141,2):=k_
@[simp] theorem aWi:cF prog 142=some (.st 141 [.st 123 [.st 121 [.int .i64 (0),.aI],.st 121 [.int .i64 (0),.aI]],.st 123 [.st 121 [.int .i64 (0),.aI],.st 121 [.int .i64 (0),.aI]]]):=k_
@[simp] theorem aT1:kindOf prog 146=.agg 76:=k_
@[simp] theorem aVG:fB prog 146=some (76,2):=k_
@[simp] theorem aWj:cF prog 146=some (.st 76 [.str [],.st 31 [.str [],.str []]]):=k_
@[simp] theorem aT2:kindOf prog 147=.agg 76:=k_
@[simp] theorem aVH:fB prog 147=some (76,2):=k_
@[simp] theorem aWk:cF prog 147=some (.st 76 [.str [],.st 31 [.str [],.str []]]):=k_
@[simp] theorem aT3:kindOf prog 149=.agg 148:=k_
@[simp] theorem aVI:fB prog 149=some (148,3):=k_
@[simp] theorem aWl:cF prog 149=some (.st 148 [.st 141 [.st 123 [.st 121 [.int .i64 (0),.aI],.st 121 [.int .i64 (0),.aI]],.st 123 [.st 121 [.int .i64 (0),.aI],.st 121 [.int .i64 (0),.aI]]],.st 141 [.st 123 [.st 121 [.int .i64 (0),.aI],.st 121 [.int .i64 (0),.aI]],.st 123 [.st 121 [.int .i64 (0),.aI],.st 121 [.int .i64 (0),.aI]]],.st 123 [.st 121 [.int .i64 (0),.aI],.st 121 [.int .i64 (0),.aI]]]):=k_
@[simp] theorem aT4:kindOf prog 153=.agg 152:=k_
@[simp] theorem aVJ:fB prog 153=some (152,3):=k_
@[simp] theorem aWm:cF prog 153=some (.st 152 [.st 141 [.st 123 [.st 121 [.int .i64 (0),.aI],.st 121 [.int .i64 (0),.aI]],.st 123 [.st 121 [.int .i64 (0),.aI],.st 121 [.int .i64 (0),.aI]]],.st 141 [.st 123 [.st 121 [.int .i64 (0),.aI],.st 121 [.int .i64 (0),.aI]],.st 123 [.st 121 [.int .i64 (0),.aI],.st 121 [.int .i64 (0),.aI]]],.st 123 [.st 121 [.int .i64 (0),.aI],.st 121 [.int .i64 (0),.aI]]]):=k_
@[simp] theorem aT5:kindOf prog 158=.agg 157:=k_
@[simp] theorem aVK:fB prog 158=some (157,3):=k_
@[simp] theorem aWn:cF prog 158=some (.st 157 [.int .i64 (0),.st 141 [.st 123 [.st 121 [.int .i64 (0),.aI],.st 121 [.int .i64 (0),.aI]],.st 123 [.st 121 [.int .i64 (0),.aI],.st 121 [.int .i64 (0),.aI]]],.st 141 [.st 123 [.st 121 [.int .i64 (0),.aI],.st 121 [.int .i64 (0),.aI]],.st 123 [.st 121 [.int .i64 (0),.aI],.st 121 [.int .i64 (0),.aI]]]]):=k_
@[simp] theorem aT6:kindOf prog 160=.agg 159:=k_
@[simp] theorem aVL:fB prog 160=some (159,3):=k_
@[simp] theorem aWo:cF prog 160=some (.st 159 [.st 123 [.st 121 [.int .i64 (0),.aI],.st 121 [.int .i64 (0),.aI]],.st 123 [.st 121 [.int .i64 (0),.aI],.st 121 [.int .i64 (0),.aI]],.st 123 [.st 121 [.int .i64 (0),.aI],.st 121 [.int .i64 (0),.aI]]]):=k_
@[simp] theorem aT7:kindOf prog 162=.agg 161:=k_
@[simp] theorem aVM:fB prog 162=some (161,3):=k_
@[simp] theorem aT8:kindOf prog 200=.leaf:=k_
@[simp] theorem aSN:c7 prog 200=some 1:=k_
@[simp] theorem aTa:fy prog 200=30:=k_
@[simp] theorem aT9:kindOf prog 202=.agg 201:=k_
@[simp] theorem aVN:fB prog 202=some (201,2):=k_
@[simp] theorem aWp:cF prog 202=some (.st 201 [.int .i64 (0),.int .i64 (0)]):=k_
@[simp] theorem aSP:c7 prog 222=some 1:=k_
@[simp] theorem aTc:fy prog 222=37:=k_
@[simp] theorem aUc:kindOf prog 236=.leaf:=k_
@[simp] theorem aSo:jO prog 236=true:=k_
@[simp] theorem aSR:c7 prog 236=some 33:=k_
@[simp] theorem aTd:fy prog 236=162:=k_
@[simp] theorem aWq:cF prog 236=some (.aI):=k_
@[simp] theorem aUe:kindOf prog 258=.agg 257:=k_
@[simp] theorem aVO:fB prog 258=some (257,2):=k_
@[simp] theorem aWr:cF prog 258=some (.st 257 [.bool false,.aI]):=k_
@[simp] theorem aUh:kindOf prog 273=.agg 272:=k_
@[simp] theorem aSk:jr prog 273=some (272,2):=k_
@[simp] theorem aWs:cF prog 273=some (.st 272 [.st 123 [.st 121 [.int .i64 (0),.aI],.st 121 [.int .i64 (0),.aI]],.st 123 [.st 121 [.int .i64 (0),.aI],.st 121 [.int .i64 (0),.aI]]]):=k_
@[simp] theorem aUm:kindOf prog 321=.agg 321:=k_
@[simp] theorem aSl:jr prog 321=some (321,2):=k_
@[simp] theorem aWw:cF prog 321=some (.st 321 [.st 272 [.st 123 [.st 121 [.int .i64 (0),.aI],.st 121 [.int .i64 (0),.aI]],.st 123 [.st 121 [.int .i64 (0),.aI],.st 121 [.int .i64 (0),.aI]]],.st 272 [.st 123 [.st 121 [.int .i64 (0),.aI],.st 121 [.int .i64 (0),.aI]],.st 123 [.st 121 [.int .i64 (0),.aI],.st 121 [.int .i64 (0),.aI]]]]):=k_
@[simp] theorem aSU:c7 prog 325=some 2:=k_
@[simp] theorem aTe:fy prog 325=32:=k_
@[simp] theorem aUn:kindOf prog 329=.leaf:=k_
@[simp] theorem aWx:cF prog 329=some (.int .u64 (0)):=k_
@[simp] theorem aUo:kindOf prog 357=.leaf:=k_
@[simp] theorem aSV:c7 prog 357=some 1:=k_
@[simp] theorem aTf:fy prog 357=5:=k_
@[simp] theorem aUp:kindOf prog 359=.agg 358:=k_
@[simp] theorem aVS:fB prog 359=some (358,2):=k_
@[simp] theorem aWy:cF prog 359=some (.st 358 [.eO,.aI]):=k_
@[simp] theorem aUu:kindOf prog 409=.agg 408:=k_
@[simp] theorem aSm:jr prog 409=some (408,256):=k_
@[simp] theorem aQ4:dS prog 25=some [1,1,1,1]:=k_
@[simp] theorem aQ5:dS prog 28=some [4,1,1,1]:=k_
@[simp] theorem aQ6:dS prog 31=some [1,1]:=k_
@[simp] theorem aWb:dS prog 42=some [1,1,1,1]:=k_
@[simp] theorem aWc:dS prog 58=some [1,1,1]:=k_
@[simp] theorem aWd:dS prog 60=some [3,3]:=k_
@[simp] theorem U7:dS prog 76=some [1,2]:=k_
@[simp] theorem aQ7:dS prog 82=some [1,1,1,1]:=k_
@[simp] theorem aVZ:dS prog 121=some [1,1]:=k_
@[simp] theorem aV0:dS prog 123=some [2,2]:=k_
@[simp] theorem aV1:dS prog 125=some [4,1,1,4]:=k_
@[simp] theorem aV2:dS prog 141=some [4,4]:=k_
@[simp] theorem aV3:dS prog 148=some [8,8,4]:=k_
@[simp] theorem aV4:dS prog 152=some [8,8,4]:=k_
@[simp] theorem aV5:dS prog 157=some [1,8,8]:=k_
@[simp] theorem aV6:dS prog 159=some [4,4,4]:=k_
@[simp] theorem aV7:dS prog 161=some [17,4,12]:=k_
@[simp] theorem aQ3:dS prog 201=some [1,1]:=k_
@[simp] theorem aV8:dS prog 257=some [1,1]:=k_
@[simp] theorem aV9:dS prog 272=some [4,4]:=k_
@[simp] theorem aWa:dS prog 321=some [8,8]:=k_
section
variable{H:Type}{w:a1}{ad:Nat->Prop}
theorem JS{P:a0}:∀{l:List Nat}{d:List PV}{b:List (List ax)},bt P w ad l d b->∀e∈d,∃c,bd P w ad e c
 |_,[],_,_=>fun e a=>by cases a
 |[],v::vs,_,h=>by simp[bt]at h
 |n::i,v::vs,b,h=>by
  simp only[bt]at h;obtain⟨c,cs,_,f,_,g⟩:=h;intro e a;rcases b3.1 a with rfl|a
  ·exact⟨c,f⟩
  ·exact JS g e a
theorem Bz{n:Nat}(d:aT H)(c)(h:bd prog w ad (bS prog (n+1) 3 d) c):∃z:Int,bS prog (n+1) 3 d=.int .i64 z:=by
 cases d with
 |lit l=>
  cases l with
  |int k z=>
   simp only[bS,Jk]at h⊢
   split at h
   ·rename_i hz;rw[if_pos hz];exact⟨_,rfl⟩
   ·simp only[bd]at h
  |_=>simp only[bS,Jk,bd]at h
 |_=>simp only[bS,Jk,bd]at h
end
theorem CP{P:a0}{W:a1}{name:String}{d:aT Unit}:∀{l:List (String×aT Unit)}{b:List av},DataW.LaidVars P W l b->(name,d)∈l->
 ∃g t cs a p,P.globalNamed name=some g/\(P.globals[g]?).map (·.type)=some t/\W.var? P name=some cs/\a3 (fun _=>()) P W 0 (fun _=>true) false a t cs.toList=some (d,p)/\∀x∈a6 ⟨g,0,none⟩ cs.size,x∈b
 |[],_,_,h=>by cases h
 |(n,d0)::r,b,h,hm=>by
  obtain⟨g,t,cs,a,p,q,j,k,m,o,s,rfl⟩:=h;rcases b3.1 hm with e|hm
  ·cases e;exact⟨g,t,cs,a,p,j,k,m,o,fun x hx=>by simp[hx]⟩
  ·obtain⟨i,v,c,f,u,k1,k2,k3,k4,k5⟩:=CP s hm;exact⟨i,v,c,f,u,k1,k2,k3,k4,fun x hx=>by simp[k5 x hx]⟩
open Go.Proofs Go.Proofs.YtdjojlnnobkliaaGreatDoor
theorem OM:prog.globalNamed "internal/strconv.uint64pow10" =some 5:=k_
theorem YJ:((Rows.aimPlansUptoRow.laid).filter fun x=>x.2.handleName?.isSome)=[]:=k_
theorem aQc:(prog.globals[5]?).map (·.type)=some 422:=k_
theorem aQd:prog.underlying 422=some (.array 20 329):=k_
theorem aQa:prog.underlying 329=some (.int .u64):=k_
theorem aP8:prog.cellsOf 329=1:=k_
theorem aP9:prog.cellsOf 422=20:=k_
theorem TW:(match prog.underlying 346 with|some (.interface _)=>true|_=>false)=true:=k_
theorem Kq{W:a1}{t:ay}{cs:List ax}{b:Nat}{n:String}{d:aT Unit}{p:List av}(a:(match prog.underlying t with|some (.interface _)=>true|_=>false)=true)
 (h:a3 (fun _=>()) prog W 0 (fun _=>true) false b t cs=some (.iface n d,p)):∃u v,cs=[.iface u v]:=by
 cases hu:prog.underlying t with
 |none=>rw[hu]at a;cases a
 |some D=>
  rw[hu]at a;cases D<;>(try (cases a;done))
  cases b with
  |zero=>simp[a3]at h
  |succ b=>
   rcases cs with _|⟨c,_|⟨c2,r⟩⟩
   ·simp[a3,hu]at h
   ·cases c<;>first|exact⟨_,_,rfl⟩|simp[a3,hu]at h
   ·cases c<;>simp[a3,hu]at h
theorem Kt:prog.globalNamed "strconv.ErrSyntax" =some 3:=k_
theorem Ku:prog.globalNamed "strconv.ErrRange" =some 4:=k_
theorem aQ2:(prog.globals[3]?).map (·.type)=some 346:=k_
theorem aQu:(prog.globals[4]?).map (·.type)=some 346:=k_
theorem aGN{W:a1}(h:laidMetH prog Rows.aimPlansUptoRow.laid W):p0 prog W (fun k=>k<W.heap.size):=by
 unfold laidMetH at h;rw[YJ]at h;obtain⟨o,i,_,hz⟩:=h;obtain⟨g,t,cs,fuel,p,k1,k2,k3,k4,k5⟩:=CP (name:= "internal/strconv.uint64pow10") (d:=Lib.tabData .u64 Lib.pow10Tab) i (by
  show _∈[_,_,_,_,_,_,_];exact bi _ (bi _ bl))
 rw[OM]at k1;cases k1;rw[aQc]at k2;cases k2;have b:=Lib.cells_of_tab aQd aQa aP8 aP9 k4;have j:cs=Jh:=by rw[Jh,<-b]
 have m:0<cs.size:=by rw[j];decide
 obtain⟨⟨c,T,a⟩,_⟩:=hz 5 0 (k5 _ (by simp[a6];exact m));refine⟨fun g=>by simp[aE,Gl.g],fun g n f=>?_,fun g f=>?_⟩
 ·match g,f with
  |5,f=>
   cases f;refine⟨(am.1 a).1,T,?_⟩;simp only[be,OM,c6,a,c9]at k3;rw[a,k3,j]
 ·have l:g=3\/g=4:=by
   simp only[Gl.Ej,T3,Bool.cond_eq_ite]at f
   split at f
   ·rename_i e;exact .inl (cx e)
   ·exact .inr (cx f)
  rcases l with rfl|rfl
  ·obtain⟨g,t,cs,fuel,p,k1,k2,k3,k4,k5⟩:=CP (name:= "strconv.ErrSyntax") (d:=Rows.laid_strconv_ErrSyntax) i (by
    show _∈[_,_,_,_,_,_,_]
    iterate 5 refine bi _ ?_
    exact bl)
   rw[Kt]at k1;cases k1;rw[aQ2]at k2;cases k2;obtain⟨u,v,hc⟩:=Kq TW k4;have b:cs=#[.iface u v]:=by rw[<-hc]
   obtain⟨⟨c,T,a⟩,_⟩:=hz 3 0 (k5 _ (by simp[a6,b]));refine⟨(am.1 a).1,u,v,T,?_⟩;simp only[be,Kt,c6,a,c9]at k3;rw[a,k3,b]
  ·obtain⟨g,t,cs,fuel,p,k1,k2,k3,k4,k5⟩:=CP (name:= "strconv.ErrRange") (d:=Rows.laid_strconv_ErrRange) i (by
    show _∈[_,_,_,_,_,_,_]
    iterate 4 refine bi _ ?_
    exact bl)
   rw[Ku]at k1;cases k1;rw[aQu]at k2;cases k2;obtain⟨u,v,hc⟩:=Kq TW k4;have b:cs=#[.iface u v]:=by rw[<-hc]
   obtain⟨⟨c,T,a⟩,_⟩:=hz 4 0 (k5 _ (by simp[a6,b]));refine⟨(am.1 a).1,u,v,T,?_⟩;simp only[be,Ku,c6,a,c9]at k3;rw[a,k3,b]
section
variable[Gl]{P:a0}
theorem awp{f:FuncId}{args:List PV}{v:PV}(d:Enters P f)(h:aq P f args v){w:a1}{ad:Nat->Prop}{a:List ax}(c:∀k,ad k->k<w.heap.size)(g:p0 P w ad)(b:bG P w ad args a):
 Calls P f a.toArray w fun e w'=>∃cv,∃aG:Nat->Prop,e=.returned cv/\w.heap.size<=w'.heap.size/\(∀k,k<w.heap.size->w'.heap[k]?=w.heap[k]?)/\(w'.os=w.os/\w'.output=w.output)/\aE P w' aG v cv:=by
 rcases h with h|h
 ·refine(h.2 w ad a c g b).mono ?_;rintro e w' ⟨cv,aG,k1,_,_,_,k5,k6,i,k7⟩;exact⟨cv,aG,k1,k5,k6,i,k7⟩
 ·obtain⟨cv,k1,_⟩:=h w ad a b;rw[d a.toArray w]at k1;cases k1
theorem aOY{w w':a1}(h:∀k,k<w.heap.size->w'.heap[k]?=w.heap[k]?)(a:w'.os=w.os/\w'.output=w.output)(b:av->Prop):w.keptBut w' b:=by
 refine⟨a.1,a.2,fun i hi=>?_⟩;rw[h i hi];cases w.heap[i]? with
 |none=>rfl
 |some o=>cases o<;>first|exact⟨rfl,rfl,rfl,fun _ _=>rfl⟩|exact .inr ⟨rfl,rfl⟩|rfl
theorem aQA{w w':a1}(h:∀k,k<w.heap.size->w'.heap[k]?=w.heap[k]?){p:av}(a:p.block<w.heap.size):w.sameAt w' p:=by
 cases p with
 |cell b o=>simp only[bf,bb];rw[h b a]
 |map b=>simp only[bf];rw[h b a]
theorem Y6{H:Type}{e:ay×ax->H}{f:Func}{s:a2}{apart fresh handsOn:Bool}{W c:a1}{args:Array ax}{v:ax}{d g:List (aT H)}{a pa pv:List av}
 (j:a5 e P f.params.toList s.vars apart W args.toList d g a)
 (o:∀(b:Nat)(sp:Nat->Bool)(m:Bool),a4 e P c b sp m f.resultTypes.toList (v.resultList f.resultTypes.size) (s.fn H (d++g)).results [])
 (l:∀sp:Nat->Bool,(∀p∈a,sp p.block=true)->a4 e P c 0 sp true f.params.toList args.toList (s.fn H (d++g)).args pa)
 (q:∀sp:Nat->Bool,(∀p∈a,sp p.block=true)->DataW.TrodVars e P c sp s.vars (s.fn H (d++g)).vars pv)
 (n:a=pa++pv)(hk:W.keptBut c (·∈a)):s.post e P f apart fresh handsOn false W args v c:=by
 have k:∀p∈a,(fun b=>decide (b<W.heap.size)) p.block=true:=fun p i=>by simpa using j.lt p i
 refine⟨d,g,a,[],pa,pv,j,o _ _ _,l _ k,q _ k,World.keptBut_mono (fun p i=>⟨i,?_⟩) hk,fun h=>by cases h⟩;rw[n,List.mem_append]at i;exact Or.inr i
end
section
variable{H:Type}{enc:ay×ax->H}{P:a0}{w:a1}
theorem auY{n:Nat}{t:ay}{d:aT H}{cs:List ax}{ad:Nat->Prop}(h:bd P w ad (bS P n t d) cs):
 (((∃fs,P.underlying t=some (.struct fs))\/∃m e,P.underlying t=some (.array m e))/\∃u,aK (bS P n t d)=.agg u)\/((P.underlying t=some .bool\/(∃k,P.underlying t=some (.int k))\/P.underlying t=some .string\/∃e,P.underlying t=some (.slice e))/\aK (bS P n t d)=.leaf):=by
 cases n with
 |zero=>simp only[bS,bd]at h
 |succ n=>
  unfold bS at h⊢
  split at h
  ·rename_i a;exact .inr ⟨.inl a,rfl⟩
  ·rename_i k z a
   split at h
   ·rename_i hz;rw[if_pos hz];exact .inr ⟨.inr (.inl ⟨_,a⟩),rfl⟩
   ·simp only[bd]at h
  ·rename_i a;exact .inr ⟨.inr (.inr (.inl a)),rfl⟩
  ·rename_i a;exact .inr ⟨.inr (.inr (.inr ⟨_,a⟩)),rfl⟩
  ·rename_i a;exact .inr ⟨.inr (.inr (.inr ⟨_,a⟩)),rfl⟩
  ·rename_i a;exact .inl ⟨.inl ⟨_,a⟩,_,rfl⟩
  ·rename_i a;exact .inl ⟨.inr ⟨_,_,a⟩,_,rfl⟩
  ·simp only[bd]at h
theorem auW[Gl]{n:Nat}{t:ay}{v:ax}{d:aT H}{f:List av}{g i:Nat}{r:Reach}(j:nM P n t=true)(h:DataW.Trod enc P w g (fun _=>true) true t v d f)(b:a7 P w r i t v):
 aE P w (fun k=>k<w.heap.size) (bS P n t d) v:=by
 obtain⟨fuel,h⟩:=h;have hc:=Ab n fuel t _ d f j h;rcases auY hc with⟨a,u,hs⟩|⟨a,hs⟩
 ·have:∃cs,v=.agg cs:=by
   rcases a with⟨fs,a⟩|⟨m,e,a⟩
   ·simp only[a7,a]at b;obtain⟨cs,rfl,_,_⟩:=b;exact⟨cs,rfl⟩
   ·simp only[a7,a]at b;obtain⟨cs,rfl,_,_⟩:=b;exact⟨cs,rfl⟩
  obtain⟨cs,rfl⟩:=this;rw[An hs]at hc;simpa[a8]using hc
 ·rw[xB hs]at hc;obtain⟨c,hc,l⟩:=hc;have:v=c:=by
   cases v with
   |agg cs=>rcases a with a|⟨k,a⟩|a|⟨e,a⟩<;>simp[a7,a,Cell.okWide,Cell.ok]at b
   |_=>simpa[a8]using hc
  rw[this];exact l
def vr(P:a0)(n:Nat):List ay->List (aT H)->List PV
 |t::ts,d::ds=>bS P n t d::vr P n ts ds
 |_,_=>[]
theorem Gq[Gl]{n:Nat}{base:Nat}{r:Reach}:∀{ts:List ay}{vs:List ax}{ds:List (aT H)}{h:List av},(∀t∈ts,nM P n t=true)->a4 enc P w 0 (fun _=>true) true ts vs ds h->
 (∀(j:Nat) t v,ts[j]?=some t->vs[j]?=some v->a7 P w r base t v)->bG P w (fun k=>k<w.heap.size) (vr P n ts ds) vs/\ds.length=ts.length
 |[],[],[],_,_,_,_=>by simp[vr,bG]
 |t::ts,v::vs,d::ds,_,b,⟨p,q,e,f,_⟩,c=>by
  have⟨i1,i2⟩:=Gq (ts:=ts) (vs:=vs) (ds:=ds) (fun t a=>b t (bi _ a)) f (fun j t v a g=>c (j+1) t v (by simpa using a) (by simpa using g));refine⟨?_,by simp[i2]⟩;simp only[vr,bG];exact⟨v,vs,rfl,auW (b t bl) e (c 0 t v rfl rfl),i1⟩
theorem Pp{n:Nat}:∀{ts:List ay}{vs:List ax}{ds:List (aT H)}{g:List av},(∀t∈ts,nM P n t=true)->a4 enc P w 0 (fun _=>true) true ts vs ds g->
 ∀p∈ts.zip ds,∃cs,bd P w (fun k=>k<w.heap.size) (bS P n p.1 p.2) cs
 |[],[],[],_,_,_=>by simp
 |t::ts,v::vs,d::ds,_,a,⟨p,q,⟨fuel,b⟩,c,_⟩=>by
  have f:=Pp (ts:=ts) (vs:=vs) (ds:=ds) (fun t e=>a t (bi _ e)) c;intro x hx;rw[b5]at hx;rcases b3.1 hx with rfl|hx
  ·exact⟨_,Ab n fuel t _ d p (a t bl) b⟩
  ·exact f x hx
theorem MA{w':a1}{f:Nat}{g:Nat->Bool}{held:Bool}:∀{c:List ay}{vs:List ax}{a:List (aT H)}{b:List av},a4 enc P w f g held c vs a b->(∀p∈b,w.sameAt w' p)->
 a4 enc P w' f g held c vs a b
 |[],[],[],_,h,_=>h
 |t::c,v::vs,d::a,_,⟨p,q,⟨n,i⟩,j,e⟩,hs=>by
  subst e;exact⟨p,q,⟨n,DataW.trod_carry n _ _ _ i fun x hx=>hs x (List.mem_append_left _ hx)⟩,MA j fun x hx=>hs x (List.mem_append_right _ hx),rfl⟩
theorem XL[Gl]{f:FuncId}{fn:Func}{s:a2}{n:Nat}{T:ay->Prop}(r:s.vars=[])(C:∀(H:Type)(a:List (aT H)),a.length=fn.params.size->(s.fn H a).results=[.lit (.bool true)]/\(s.fn H a).args=a/\(s.fn H a).vars=[])
 (K:Kids P T)(hz:∀t e,T t->P.underlying t=some (.slice e)->0<P.cellsOf e)(y:∀t∈fn.params.toList,T t)(o:∀t∈fn.params.toList,nM P n t=true){tb:ay}(I:fn.resultTypes=#[tb])(A:P.underlying tb=some .bool)
 (B:Enters P f){W:a1}{args:Array ax}{a c:List (aT H)}{w:List av}{u:Nat}(D:p0 P W (fun k=>k<W.heap.size))
 (E:(∀p∈fn.params.toList.zip a,∃cs,bd P W (fun k=>k<W.heap.size) (bS P n p.1 p.2) cs)->aq P f (vr P n fn.params.toList a) (.bool true))
 (M:∀(j:Nat) t v,fn.params[j]?=some t->args[j]?=some v->a7 P W .any u t v)
 (m:a5 enc P fn.params.toList s.vars false W args.toList a c w):
 Calls P f args W fun e l=>∃v,e=.returned v/\s.post enc P fn false true false false W args v l:=by
 have z:=m;obtain⟨p,q,d,h,rfl,O,Q⟩:=m;rw[r]at h;have⟨i,hlen⟩:=Gq o d (fun j t v J L=>M j t v (by simpa using J) (by simpa using L));have F:c=[]/\q=[]:=by
  cases c with
  |nil=>exact⟨rfl,h⟩
  |cons g c=>exact h.elim
 obtain⟨rfl,rfl⟩:=F;have hc:=awp B (E (Pp o d)) (fun k hk=>hk) D i;refine hc.mono ?_;rintro e l ⟨cv,aG,rfl,k1,k2,k3,k4⟩;refine⟨cv,rfl,?_⟩;obtain⟨f1,f2,f3⟩:=C H (a++[]) (by simpa using hlen);have e1:cv=.bool true:=by simpa[aE]using k4
 have G:=DataW.TrodAll.lt d;refine Y6 (pa:=p) (pv:=[]) z ?_ ?_ ?_ rfl (aOY k2 k3 _)
 ·intro b sp N;rw[f1,I,e1];refine⟨[],[],⟨1,?_⟩,rfl,rfl⟩;simp[a3,A,a8]
 ·intro sp hs;rw[f2];simp only[List.append_nil]at hs⊢;exact MA (DataW.TrodAll.respare K hz y d fun p i=>hs p i) fun x hx=>aQA k2 (G x hx)
 ·intro sp hs;rw[f3,r];rfl
end
end Go.ag
