import Derived.Test.YtembaldpmgjjbaaGreatDoorXThC
import Derived.Deep.Slices
import Derived.Test.YtembaldpmgjjbaaGreatDoorProg
import Derived.KernelRfl
import Derived.Lib.ItoaNum
import Derived.Test.YtembaldpmgjjbaaGreatDoorRows
import Derived.Lib.LaidTab
import Derived.ReadAgain
import Derived.ChangeOld
import Derived.RowKit3
import Derived.ChangeSame
import Derived.WideShapes
/- Parts of a proof. -/
set_option maxRecDepth 100000
set_option linter.unusedSimpArgs false
set_option linter.unusedVariables false
set_option linter.unusedSectionVars false
open Go.Proofs.Tryz
open Array renaming getElem?_eq_some_iff->am
open Bool renaming and_eq_true->ao
open Go renaming MemPlace->av, Value->ax, TypeId->ay, DataW->aT, Program->a0, World->a1, ChangeSpec->a2
open Go.DataW renaming trod->a3, TrodAll->a4, Whole->a5
open Go.MemPlace renaming row->a6
open Go.Value renaming okWide->a7, cells->a8
open Go.World renaming cells?_some->a9, cell?->bb, var?->be, sameAt->bf
open List renaming mem_cons_of_mem->bi, mem_cons_self->bl, getElem?_eq_getElem->bo, range->bp, flatten_append->bv, map_cons->bw, range_succ->bI, map_append->bV, mem_cons->b0, take_of_length_le->b1, zip_cons_cons->b2, replicate->b3, mem_range->b4, take_add->b5, sum_cons->ca
open Nat renaming succ_mul->cb, eq_of_beq_eq_true->cc, beq->cd
open Option renaming bind_some->ck
open Option.some renaming injEq->cx
namespace Go.ae
open Go.Deep
section
variable{H:Type}
def bO(P:a0):Nat->ay->aT H->PV
 |0,_,_=>.undef
 |n+1,t,d=>match P.underlying t,d with
  |some .bool,.lit (.bool b)=>.bool b
  |some (.int k),.lit (.int _ z)=>if(Lit.int k z).wf=true then .int k z else .undef
  |some .string,.lit (.string s)=>.str (s.map (·.toNat))
  |some (.slice e),.slice ds _=>.seq (ds.map (bO P n e))
  |some (.slice _),.nil=>.seq []
  |some (.struct fs),.agg ds=>.st (P.underlyingId t) ((fs.toList.zip ds).map fun p=>bO P n p.1.type p.2)
  |some (.array _ e),.agg ds=>.st (P.underlyingId t) (ds.map (bO P n e))
  |_,_=>.undef
def DU(P:a0):Nat->List Field->Bool
 |_,[]=>true
 |o,f::fs=>(f.offset==o)&&DU P (o+P.cellsOf f.type) fs
def n9(P:a0):Nat->ay->Bool
 |0,_=>false
 |n+1,t=>match P.underlying t with
  |some .bool|some (.int _)|some .string=>true
  |some (.slice e)=>n9 P n e&&decide (0<P.cellsOf e)
  |some (.struct fs)=>(dG P (P.underlyingId t)==some (fs.toList.map fun f=>P.cellsOf f.type))&&DU P 0 fs.toList&&(((fs.toList.map fun f=>P.cellsOf f.type).sum)==P.cellsOf t)&&fs.toList.all fun f=>n9 P n f.type
  |some (.array m e)=>(dG P (P.underlyingId t)==some (b3 m (P.cellsOf e)))&&(m*P.cellsOf e==P.cellsOf t)&&n9 P n e
  |_=>false
variable{enc:ay×ax->H}{P:a0}{w:a1}{base:Nat}{held:Bool}
theorem Sr{n k:Nat}{ad:Nat->Prop}(l:∀t cs d u,n9 P n t=true->a3 enc P w base (fun _=>true) held k t cs=some (d,u)->bc P w ad (bO P n t d) cs):
 ∀(fs:List Field)(a:List (aT H×List av))(o:Nat)(cs:List ax),DU P o fs=true->a.length=fs.length->(∀f∈fs,n9 P n f.type=true)->o+(fs.map fun f=>P.cellsOf f.type).sum<=cs.length->
  (∀(i:Nat)(f:Field),fs[i]?=some f->a3 enc P w base (fun _=>true) held k f.type ((cs.drop f.offset).take (P.cellsOf f.type))=a[i]?)->
  bA P w ad (fs.map fun f=>P.cellsOf f.type) ((fs.zip (a.map (·.1))).map fun p=>bO P n p.1.type p.2) (fs.map fun f=>(cs.drop f.offset).take (P.cellsOf f.type))/\
   (fs.map fun f=>(cs.drop f.offset).take (P.cellsOf f.type)).flatten=(cs.drop o).take (fs.map fun f=>P.cellsOf f.type).sum
 |[],a,o,cs,_,b,_,_,_=>by
  have:a=[]:=by simpa using b
  subst this;simp[bA]
 |f::fs,[],o,cs,_,b,_,_,_=>by simp at b
 |f::fs,x::a,o,cs,c,b,h,hlen,hx=>by
  simp only[DU,ao,beq_iff_eq]at c;obtain⟨c,s⟩:=c;simp only[bw,ca]at hlen;have j:=hx 0 f rfl;simp only[List.getElem?_cons_zero]at j;have m:=l _ _ x.1 x.2 (h f bl) j;have⟨q,r⟩:=Sr l fs a (o+P.cellsOf f.type) cs s (by simpa using b) (fun g e=>h g (bi _ e)) o_ (fun i g e=>by have:=hx (i+1) g (by simpa using e);simpa using this);refine⟨?_,?_⟩
  ·simp only[bw,b2,bA];exact⟨_,_,rfl,m,by simp[c];omega,q⟩
  ·simp only[bw,List.flatten_cons,ca,r,c];rw[<-List.drop_drop,b5]
theorem Gc{an len:Nat}{ad:Nat->Prop}{f:Nat->PV}{g:Nat->List ax}:∀{l:List Nat},(∀i∈l,bc P w ad (f i) (g i)/\(g i).length=an)->bA P w ad (b3 l.length an) (l.map f) (l.map g)
 |[],_=>by simp[bA]
 |a::l,h=>by
  simp only[List.length_cons,List.replicate_succ,bw,bA];exact⟨_,_,rfl,(h a bl).1,(h a bl).2,Gc (len:=len) fun i hi=>h i (bi _ hi)⟩
theorem trod_array{m:Nat}{e t:ay}{b:Nat}{cs:List ax}{x:aT H×List av}{d:Nat->Bool}(g:P.underlying t=some (.array m e))(h:a3 enc P w base d held b t cs=some x):
 ∃(a:List (aT H×List av))(n:Nat),b=n+1/\x=(.agg (a.map (·.1)),a.flatMap (·.2))/\cs.length=P.cellsOf t/\a.length=m/\
  ∀i,i<m->a3 enc P w base d held n e ((cs.drop (i*P.cellsOf e)).take (P.cellsOf e))=a[i]?:=by
 cases b with
 |zero=>simp[a3]at h
 |succ n=>
  unfold a3 at h;rw[g]at h
  split at h<;>simp_all
  obtain⟨j,a,c,f⟩:=h;exact⟨a,f.symm,by simpa using mapM_some_length c,fun i hi=>mapM_some_get c i i (by simp[hi])⟩
theorem Ou{α:Type}{cs:List α}{an:Nat}:∀m,((bp m).map fun i=>(cs.drop (i*an)).take an).flatten=cs.take (m*an)
 |0=>by simp
 |m+1=>by
  rw[bI,bV,bv,Ou m,cb,b5];simp
theorem Hg{V:Nat->List ax}{an:Nat}:∀(len:Nat),(∀i,i<len->(V i).length=an)->((bp len).map V).flatten.length=len*an
 |0,_=>by simp
 |len+1,h=>by
  rw[bI,bV,bv,List.length_append,Hg len fun i hi=>h i o_,cb];simp[h len o_]
theorem OQ{V:Nat->List ax}{an b o:Nat}:∀(len:Nat),(∀i,i<len->(V i).length=an)->(∀i,i<len->∀j,j<an->w.cell? ⟨b,o+(i*an+j),none⟩=(V i)[j]?)->ja w b o ((bp len).map V).flatten
 |0,_,_=>by intro i hi;simp at hi
 |len+1,h,hc=>by
  intro i hi;have a:=Hg (V:=V) (an:=an) len fun i hi=>h i o_;have c:=OQ (V:=V) (an:=an) (b:=b) (o:=o) len (fun i hi=>h i o_) (fun i hi=>hc i o_);have e:((bp (len+1)).map V).flatten=((bp len).map V).flatten++V len:=by
   rw[bI,bV,bv];simp
  have f:i<len*an+an:=by
   have:=Hg (V:=V) (an:=an) (len+1) h;rw[cb]at this;omega
  rw[<-bo hi,e]
  by_cases d:i<len*an
  ·rw[List.getElem?_append_left o_,bo o_];exact c i o_
  ·rw[List.getElem?_append_right o_,a];have:=hc len o_ (i-len*an) o_;rw[<-this];congr 3;omega
theorem Ap:∀(n:Nat)(I:Nat)(t:ay)(cs:List ax)(d:aT H)(r:List av),n9 P n t=true->a3 enc P w base (fun _=>true) held I t cs=some (d,r)->
 bc P w (fun k=>k<w.heap.size) (bO P n t d) cs
 |0,_,_,_,_,_,h,_=>by simp[n9]at h
 |n+1,I,t,cs,d,r,h,p=>by
  simp only[n9]at h
  split at h
  ·rename_i o;obtain⟨b,rfl,hx⟩:=DataW.trod_bool o p;cases hx;simp[bO,o,bc]
  ·rename_i k o;obtain⟨z,rfl,hx,hz⟩:=DataW.trod_int o p;cases hx;simp[bO,o,hz,bc]
  ·rename_i o;obtain⟨s,rfl,hx,_⟩:=DataW.trod_string o p;cases hx;simp[bO,o,bc]
  ·rename_i e o;simp only[ao,decide_eq_true_eq]at h;obtain⟨v,B⟩:=h;rcases open_slice o p with⟨rfl,hx⟩|⟨a,len,cap,m,k,D,R,rfl,ab,X,ae,N,hx,T⟩
   ·cases hx;simp[bO,o,bc]
   cases hx;simp only[if_true]at N;subst N;obtain⟨V,q⟩:=choose_lt T;have Q:a.spot=none\/m=0:=by
    by_cases hz:m=0
    ·exact .inr hz
    left;obtain⟨c1,_⟩:=q 0 o_;obtain⟨_,c2,c3⟩:=a9 c1;have c4:=c3 0 B;rw[bo o_]at c4;simp only[Addr.add,Nat.zero_mul,if_true]at c4;unfold bb at c4
    split at c4
    ·split at c4
     ·cases c4
     ·rename_i hs;simpa using hs
    ·cases c4
   have L:∀i,i<m->∀j,j<P.cellsOf e->w.cell? ⟨a.block,a.off+(i*P.cellsOf e+j),none⟩=(V i)[j]?:=by
    intro i hi j W;have hs:a.spot=none:=Q.resolve_right o_;obtain⟨_,_,c3⟩:=a9 (q i hi).1;have:=c3 j W;rw[add_add]at this;rw[<-this];obtain⟨E,F,G⟩:=a;simp only at hs;subst hs;unfold Addr.add;split<;>simp_all
   have A:∀i,i<m->(V i).length=P.cellsOf e:=fun i hi=>(a9 (q i hi).1).2.1;simp only[bO,o,bc];right;obtain⟨E,F,G⟩:=a;refine⟨E,F,m,P.cellsOf e,(bp len).map V,?_,?_,?_,by simpa using X,G,Q,s_⟩
   ·have:=Gc (P:=P) (w:=w) (len:=len) (an:=P.cellsOf e) (ad:=fun k=>k<w.heap.size) (f:=fun i=>bO P n e (D i)) (g:=V) (l:=bp len) (fun i hi=>by
     have hi:i<m:=by have:=b4.1 hi;omega
     exact⟨Ap n k e (V i) (D i) (R i) v (q i hi).2,A i hi⟩)
    simpa[Function.comp_def]using this
   ·intro Y;have aa:0<len:=by
     rcases Nat.eq_zero_or_pos len with h|h
     ·subst h;simp at Y
     ·exact h
    have c:=L 0 o_ 0 B;rw[bo (by rw[A 0 o_];exact B)]at c;unfold bb at c
    split at c
    ·rename_i y;exact(am.1 y).1
    ·cases c
   ·exact OQ len (fun i hi=>A i o_) (fun i hi=>L i o_)
  ·rename_i fs o;simp only[ao,beq_iff_eq,List.all_eq_true]at h;obtain⟨⟨⟨u,J⟩,K⟩,S⟩:=h;obtain⟨xs,k,rfl,hx,hlen,C,hf⟩:=DataW.trod_struct o p;cases hx;have⟨g1,g2⟩:=Sr (ad:=fun k=>k<w.heap.size) (fun t cs d r Z y=>Ap n k t cs d r Z y) fs.toList xs 0 cs J (by simpa using C) S o_ (fun i f hi=>hf i f (by simpa using hi));simp only[bO,o,bc];refine⟨_,_,u,g1,?_⟩;rw[g2,List.drop_zero,b1 o_]
  ·rename_i m e o;simp only[ao,beq_iff_eq]at h;obtain⟨⟨u,J⟩,K⟩:=h;obtain⟨xs,k,rfl,hx,hlen,C,hf⟩:=trod_array o p;cases hx;have O:=Gc (P:=P) (w:=w) (len:=m) (an:=P.cellsOf e) (ad:=fun k=>k<w.heap.size) (f:=fun i=>match xs[i]? with
     |some x=>bO P n e x.1
     |none=>.undef) (g:=fun i=>(cs.drop (i*P.cellsOf e)).take (P.cellsOf e)) (l:=bp m) (fun i hi=>by
      have hi:i<m:=b4.1 hi;have M:=hf i hi;rw[bo o_]at M⊢;refine⟨Ap n k e _ xs[i].1 xs[i].2 K M,?_⟩;have:(i+1)*P.cellsOf e<=m*P.cellsOf e:=Nat.mul_le_mul_right _ hi;rw[cb]at this;simp;omega)
   have v:((bp m).map fun i=>match xs[i]? with
    |some x=>bO P n e x.1
    |none=>.undef)=(xs.map (·.1)).map (bO P n e):=by
    apply List.ext_getElem
    ·simp[C]
    ·intro i U ac;simp at U;simp[bo (show i<xs.length by omega)]
   rw[v,List.length_range]at O;simp only[bO,o,bc];refine⟨_,_,u,O,?_⟩;rw[Ou,b1 o_]
  ·cases h
end
open Go.Proofs
def Jt:Array ax:=(Lib.pow10Tab.map fun z=>Value.int .u64 z).toArray
def aPy:Nat->Option (Array ax)
 |5=>some Jt
 |_=>none
instance Uw:Gl:=⟨fun _=>.undef,5,aPy,fun u=>bif cd u 345 then some 346 else none,fun n=>bif cd n 3 then true else cd n 4⟩
@[simp] theorem ki3:kindOf prog 3=.leaf:=k_
@[simp] theorem Jw:prog.underlying 3=some (.int .i64):=k_
@[simp] theorem tz3:cO prog 3=some (.int .i64 (0)):=k_
@[simp] theorem ki4:kindOf prog 4=.leaf:=k_
@[simp] theorem ib4:vf prog 4=true:=k_
@[simp] theorem tz4:cO prog 4=some (.bool false):=k_
@[simp] theorem tz5:cO prog 5=some (.int .u8 (0)):=k_
@[simp] theorem ki9:kindOf prog 9=.leaf:=k_
@[simp] theorem yK:prog.underlying 9=some .string:=k_
@[simp] theorem at9:jI prog 9=true:=k_
@[simp] theorem tz9:cO prog 9=some (.str []):=k_
@[simp] theorem aTD:kindOf prog 22=.leaf:=k_
@[simp] theorem aQQ:prog.underlying 22=some (.slice 140):=k_
@[simp] theorem aRP:jI prog 22=true:=k_
@[simp] theorem aSj:dH prog 22=some 2:=k_
@[simp] theorem aSB:fR prog 22=140:=k_
@[simp] theorem aTE:kindOf prog 23=.leaf:=k_
@[simp] theorem aQR:prog.underlying 23=some (.slice 125):=k_
@[simp] theorem aSk:dH prog 23=some 4:=k_
@[simp] theorem aTG:kindOf prog 24=.leaf:=k_
@[simp] theorem aQS:prog.underlying 24=some (.slice 135):=k_
@[simp] theorem aSm:dH prog 24=some 3:=k_
@[simp] theorem aTJ:kindOf prog 26=.agg 25:=k_
@[simp] theorem aVq:fp prog 26=some (25,4):=k_
@[simp] theorem aTK:kindOf prog 27=.leaf:=k_
@[simp] theorem aQT:prog.underlying 27=some (.slice 129):=k_
@[simp] theorem aSo:dH prog 27=some 3:=k_
@[simp] theorem aTM:kindOf prog 29=.agg 28:=k_
@[simp] theorem aVs:fp prog 29=some (28,4):=k_
@[simp] theorem aTP:kindOf prog 30=.leaf:=k_
@[simp] theorem Jx:prog.underlying 30=some .string:=k_
@[simp] theorem aWc:cO prog 30=some (.str []):=k_
@[simp] theorem aTR:kindOf prog 32=.agg 31:=k_
@[simp] theorem aVt:fp prog 32=some (31,2):=k_
@[simp] theorem aWe:cO prog 32=some (.st 31 [.str [],.str []]):=k_
@[simp] theorem aTU:kindOf prog 36=.leaf:=k_
@[simp] theorem aRR:jI prog 36=true:=k_
@[simp] theorem aSr:dH prog 36=some 1:=k_
@[simp] theorem aSG:fR prog 36=3:=k_
@[simp] theorem aTV:kindOf prog 37=.leaf:=k_
@[simp] theorem aWg:cO prog 37=some (.int .i64 (0)):=k_
@[simp] theorem aTX:kindOf prog 40=.leaf:=k_
@[simp] theorem aRS:jI prog 40=true:=k_
@[simp] theorem aSs:dH prog 40=some 4:=k_
@[simp] theorem aSH:fR prog 40=109:=k_
@[simp] theorem aTZ:kindOf prog 41=.leaf:=k_
@[simp] theorem aRT:jI prog 41=true:=k_
@[simp] theorem aSt:dH prog 41=some 3:=k_
@[simp] theorem aSI:fR prog 41=186:=k_
@[simp] theorem aT0:kindOf prog 43=.agg 42:=k_
@[simp] theorem aVv:fp prog 43=some (42,4):=k_
@[simp] theorem aWi:cO prog 43=some (.st 42 [.aM,.int .i64 (0),.aM,.aM]):=k_
@[simp] theorem aT1:kindOf prog 44=.leaf:=k_
@[simp] theorem aRU:jI prog 44=true:=k_
@[simp] theorem aSu:dH prog 44=some 3:=k_
@[simp] theorem aSJ:fR prog 44=91:=k_
@[simp] theorem aT2:kindOf prog 46=.agg 45:=k_
@[simp] theorem aVw:fp prog 46=some (45,4):=k_
@[simp] theorem aWj:cO prog 46=some (.st 45 [.st 42 [.aM,.int .i64 (0),.aM,.aM],.aM,.str [],.str []]):=k_
@[simp] theorem aT3:kindOf prog 66=.agg 65:=k_
@[simp] theorem aVx:fp prog 66=some (65,3):=k_
@[simp] theorem aWl:cO prog 66=some (.st 65 [.str [],.str [],.str []]):=k_
@[simp] theorem aRV:jI prog 86=true:=k_
@[simp] theorem aSv:dH prog 86=some 1:=k_
@[simp] theorem aSK:fR prog 86=9:=k_
@[simp] theorem aT5:kindOf prog 91=.agg 90:=k_
@[simp] theorem aVy:fp prog 91=some (90,2):=k_
@[simp] theorem aWn:cO prog 91=some (.st 90 [.str [],.st 31 [.str [],.str []]]):=k_
@[simp] theorem aT6:kindOf prog 95=.agg 95:=k_
@[simp] theorem aRO:iO prog 95=some (95,2):=k_
@[simp] theorem aWo:cO prog 95=some (.st 95 [.st 31 [.str [],.str []],.st 31 [.str [],.str []]]):=k_
@[simp] theorem aT7:kindOf prog 96=.leaf:=k_
@[simp] theorem aT8:kindOf prog 97=.leaf:=k_
@[simp] theorem aSw:dH prog 97=some 1:=k_
@[simp] theorem aSL:fR prog 97=295:=k_
@[simp] theorem aT9:kindOf prog 99=.agg 98:=k_
@[simp] theorem aVz:fp prog 99=some (98,2):=k_
@[simp] theorem aWp:cO prog 99=some (.st 98 [.int .i64 (0),.aM]):=k_
@[simp] theorem aTm:kindOf prog 101=.agg 100:=k_
@[simp] theorem aVa:fp prog 101=some (100,2):=k_
@[simp] theorem aVS:cO prog 101=some (.st 100 [.st 98 [.int .i64 (0),.aM],.st 98 [.int .i64 (0),.aM]]):=k_
@[simp] theorem aTn:kindOf prog 103=.agg 102:=k_
@[simp] theorem aVb:fp prog 103=some (102,4):=k_
@[simp] theorem aVT:cO prog 103=some (.st 102 [.st 42 [.aM,.int .i64 (0),.aM,.aM],.aM,.gB,.st 100 [.st 98 [.int .i64 (0),.aM],.st 98 [.int .i64 (0),.aM]]]):=k_
@[simp] theorem aTo:kindOf prog 105=.agg 104:=k_
@[simp] theorem aVc:fp prog 105=some (104,2):=k_
@[simp] theorem aTp:kindOf prog 109=.agg 108:=k_
@[simp] theorem aVd:fp prog 109=some (108,4):=k_
@[simp] theorem aVU:cO prog 109=some (.st 108 [.str [],.int .i64 (0),.str [],.str []]):=k_
@[simp] theorem aTq:kindOf prog 122=.agg 121:=k_
@[simp] theorem aVe:fp prog 122=some (121,2):=k_
@[simp] theorem aVV:cO prog 122=some (.st 121 [.st 100 [.st 98 [.int .i64 (0),.aM],.st 98 [.int .i64 (0),.aM]],.st 100 [.st 98 [.int .i64 (0),.aM],.st 98 [.int .i64 (0),.aM]]]):=k_
@[simp] theorem aTr:kindOf prog 125=.agg 108:=k_
@[simp] theorem aVf:fp prog 125=some (108,4):=k_
@[simp] theorem aVW:cO prog 125=some (.st 108 [.str [],.int .i64 (0),.str [],.str []]):=k_
@[simp] theorem aTs:kindOf prog 129=.agg 90:=k_
@[simp] theorem aVg:fp prog 129=some (90,2):=k_
@[simp] theorem aVX:cO prog 129=some (.st 90 [.str [],.st 31 [.str [],.str []]]):=k_
@[simp] theorem aTt:kindOf prog 135=.agg 90:=k_
@[simp] theorem aVh:fp prog 135=some (90,2):=k_
@[simp] theorem aVY:cO prog 135=some (.st 90 [.str [],.st 31 [.str [],.str []]]):=k_
@[simp] theorem aTu:kindOf prog 138=.leaf:=k_
@[simp] theorem aSh:dH prog 138=some 1:=k_
@[simp] theorem aSz:fR prog 138=30:=k_
@[simp] theorem aTv:kindOf prog 140=.agg 139:=k_
@[simp] theorem aVi:fp prog 140=some (139,2):=k_
@[simp] theorem aVZ:cO prog 140=some (.st 139 [.int .i64 (0),.int .i64 (0)]):=k_
@[simp] theorem aTw:kindOf prog 148=.agg 147:=k_
@[simp] theorem aVj:fp prog 148=some (147,3):=k_
@[simp] theorem aV0:cO prog 148=some (.st 147 [.st 121 [.st 100 [.st 98 [.int .i64 (0),.aM],.st 98 [.int .i64 (0),.aM]],.st 100 [.st 98 [.int .i64 (0),.aM],.st 98 [.int .i64 (0),.aM]]],.st 121 [.st 100 [.st 98 [.int .i64 (0),.aM],.st 98 [.int .i64 (0),.aM]],.st 100 [.st 98 [.int .i64 (0),.aM],.st 98 [.int .i64 (0),.aM]]],.st 100 [.st 98 [.int .i64 (0),.aM],.st 98 [.int .i64 (0),.aM]]]):=k_
@[simp] theorem aTx:kindOf prog 152=.agg 151:=k_
@[simp] theorem aVk:fp prog 152=some (151,3):=k_
@[simp] theorem aV1:cO prog 152=some (.st 151 [.st 100 [.st 98 [.int .i64 (0),.aM],.st 98 [.int .i64 (0),.aM]],.st 100 [.st 98 [.int .i64 (0),.aM],.st 98 [.int .i64 (0),.aM]],.st 100 [.st 98 [.int .i64 (0),.aM],.st 98 [.int .i64 (0),.aM]]]):=k_
@[simp] theorem aTy:kindOf prog 158=.agg 157:=k_
@[simp] theorem aVl:fp prog 158=some (157,3):=k_
@[simp] theorem aV2:cO prog 158=some (.st 157 [.int .i64 (0),.st 121 [.st 100 [.st 98 [.int .i64 (0),.aM],.st 98 [.int .i64 (0),.aM]],.st 100 [.st 98 [.int .i64 (0),.aM],.st 98 [.int .i64 (0),.aM]]],.st 121 [.st 100 [.st 98 [.int .i64 (0),.aM],.st 98 [.int .i64 (0),.aM]],.st 100 [.st 98 [.int .i64 (0),.aM],.st 98 [.int .i64 (0),.aM]]]]):=k_
@[simp] theorem aTz:kindOf prog 160=.agg 159:=k_
@[simp] theorem aVm:fp prog 160=some (159,3):=k_
@[simp] theorem aTA:kindOf prog 163=.agg 162:=k_
@[simp] theorem aVn:fp prog 163=some (162,3):=k_
@[simp] theorem aV3:cO prog 163=some (.st 162 [.st 121 [.st 100 [.st 98 [.int .i64 (0),.aM],.st 98 [.int .i64 (0),.aM]],.st 100 [.st 98 [.int .i64 (0),.aM],.st 98 [.int .i64 (0),.aM]]],.st 121 [.st 100 [.st 98 [.int .i64 (0),.aM],.st 98 [.int .i64 (0),.aM]],.st 100 [.st 98 [.int .i64 (0),.aM],.st 98 [.int .i64 (0),.aM]]],.st 100 [.st 98 [.int .i64 (0),.aM],.st 98 [.int .i64 (0),.aM]]]):=k_
@[simp] theorem aTB:kindOf prog 186=.agg 90:=k_
@[simp] theorem aVo:fp prog 186=some (90,2):=k_
@[simp] theorem aV4:cO prog 186=some (.st 90 [.str [],.st 31 [.str [],.str []]]):=k_
@[simp] theorem aSi:dH prog 187=some 1:=k_
@[simp] theorem aSA:fR prog 187=37:=k_
@[simp] theorem aTC:kindOf prog 199=.agg 74:=k_
@[simp] theorem aVp:fp prog 199=some (74,2):=k_
@[simp] theorem aV5:cO prog 199=some (.st 74 [.st 65 [.str [],.str [],.str []],.st 65 [.str [],.str [],.str []]]):=k_
@[simp] theorem aTF:kindOf prog 233=.leaf:=k_
@[simp] theorem aRQ:jI prog 233=true:=k_
@[simp] theorem aSl:dH prog 233=some 33:=k_
@[simp] theorem aSC:fR prog 233=160:=k_
@[simp] theorem aV6:cO prog 233=some (.aM):=k_
@[simp] theorem aTH:kindOf prog 243=.leaf:=k_
@[simp] theorem aV7:cO prog 243=some (.iV):=k_
@[simp] theorem aSn:dH prog 244=some 1:=k_
@[simp] theorem aSD:fR prog 244=243:=k_
@[simp] theorem aTI:kindOf prog 249=.agg 248:=k_
@[simp] theorem aRL:iO prog 249=some (248,2):=k_
@[simp] theorem aV8:cO prog 249=some (.st 248 [.st 100 [.st 98 [.int .i64 (0),.aM],.st 98 [.int .i64 (0),.aM]],.st 100 [.st 98 [.int .i64 (0),.aM],.st 98 [.int .i64 (0),.aM]]]):=k_
@[simp] theorem aTL:kindOf prog 286=.agg 285:=k_
@[simp] theorem aVr:fp prog 286=some (285,2):=k_
@[simp] theorem aV9:cO prog 286=some (.st 285 [.bool false,.aM]):=k_
@[simp] theorem aSp:dH prog 293=some 2:=k_
@[simp] theorem aSE:fR prog 293=32:=k_
@[simp] theorem aTN:kindOf prog 295=.leaf:=k_
@[simp] theorem aWa:cO prog 295=some (.int .u64 (0)):=k_
@[simp] theorem aTQ:kindOf prog 316=.agg 316:=k_
@[simp] theorem aRM:iO prog 316=some (316,2):=k_
@[simp] theorem aWd:cO prog 316=some (.st 316 [.st 248 [.st 100 [.st 98 [.int .i64 (0),.aM],.st 98 [.int .i64 (0),.aM]],.st 100 [.st 98 [.int .i64 (0),.aM],.st 98 [.int .i64 (0),.aM]]],.st 248 [.st 100 [.st 98 [.int .i64 (0),.aM],.st 98 [.int .i64 (0),.aM]],.st 100 [.st 98 [.int .i64 (0),.aM],.st 98 [.int .i64 (0),.aM]]]]):=k_
@[simp] theorem aTS:kindOf prog 344=.leaf:=k_
@[simp] theorem aSq:dH prog 344=some 1:=k_
@[simp] theorem aSF:fR prog 344=5:=k_
@[simp] theorem aTT:kindOf prog 346=.agg 345:=k_
@[simp] theorem aVu:fp prog 346=some (345,2):=k_
@[simp] theorem aWf:cO prog 346=some (.st 345 [.gL,.aM]):=k_
@[simp] theorem aTY:kindOf prog 400=.agg 399:=k_
@[simp] theorem aRN:iO prog 400=some (399,256):=k_
@[simp] theorem aQB:dG prog 25=some [1,1,1,1]:=k_
@[simp] theorem aQC:dG prog 28=some [4,1,1,1]:=k_
@[simp] theorem aQD:dG prog 31=some [1,1]:=k_
@[simp] theorem aVM:dG prog 42=some [1,1,1,1]:=k_
@[simp] theorem aVN:dG prog 45=some [4,1,1,1]:=k_
@[simp] theorem aVO:dG prog 65=some [1,1,1]:=k_
@[simp] theorem aVP:dG prog 74=some [3,3]:=k_
@[simp] theorem Wm:dG prog 90=some [1,2]:=k_
@[simp] theorem aVQ:dG prog 95=some [2,2]:=k_
@[simp] theorem aVR:dG prog 98=some [1,1]:=k_
@[simp] theorem aVA:dG prog 100=some [2,2]:=k_
@[simp] theorem aVB:dG prog 102=some [4,1,1,4]:=k_
@[simp] theorem aVC:dG prog 104=some [10,7]:=k_
@[simp] theorem aQz:dG prog 108=some [1,1,1,1]:=k_
@[simp] theorem aVD:dG prog 121=some [4,4]:=k_
@[simp] theorem aQA:dG prog 139=some [1,1]:=k_
@[simp] theorem aVE:dG prog 147=some [8,8,4]:=k_
@[simp] theorem aVF:dG prog 151=some [4,4,4]:=k_
@[simp] theorem aVG:dG prog 157=some [1,8,8]:=k_
@[simp] theorem aVH:dG prog 159=some [17,4,12]:=k_
@[simp] theorem aVI:dG prog 162=some [8,8,4]:=k_
@[simp] theorem aVJ:dG prog 248=some [4,4]:=k_
@[simp] theorem aVK:dG prog 285=some [1,1]:=k_
@[simp] theorem aVL:dG prog 316=some [8,8]:=k_
section
variable{H:Type}{w:a1}{ad:Nat->Prop}
theorem Ka{P:a0}:∀{l:List Nat}{d:List PV}{b:List (List ax)},bA P w ad l d b->∀e∈d,∃c,bc P w ad e c
 |_,[],_,_=>fun e a=>by cases a
 |[],v::vs,_,h=>by simp[bA]at h
 |n::i,v::vs,b,h=>by
  simp only[bA]at h;obtain⟨c,cs,_,f,_,g⟩:=h;intro e a;rcases b0.1 a with rfl|a
  ·exact⟨c,f⟩
  ·exact Ka g e a
theorem BT{n:Nat}(d:aT H)(c)(h:bc prog w ad (bO prog (n+1) 3 d) c):∃z:Int,bO prog (n+1) 3 d=.int .i64 z:=by
 cases d with
 |lit l=>
  cases l with
  |int k z=>
   simp only[bO,Jw]at h⊢
   split at h
   ·rename_i hz;rw[if_pos hz];exact⟨_,rfl⟩
   ·simp only[bc]at h
  |_=>simp only[bO,Jw,bc]at h
 |_=>simp only[bO,Jw,bc]at h
end
theorem C1{P:a0}{W:a1}{name:String}{d:aT Unit}:∀{l:List (String×aT Unit)}{b:List av},DataW.LaidVars P W l b->(name,d)∈l->
 ∃g t cs a p,P.globalNamed name=some g/\(P.globals[g]?).map (·.type)=some t/\W.var? P name=some cs/\a3 (fun _=>()) P W 0 (fun _=>true) false a t cs.toList=some (d,p)/\∀x∈a6 ⟨g,0,none⟩ cs.size,x∈b
 |[],_,_,h=>by cases h
 |(n,d0)::r,b,h,hm=>by
  obtain⟨g,t,cs,a,p,q,j,k,m,o,s,rfl⟩:=h;rcases b0.1 hm with e|hm
  ·cases e;exact⟨g,t,cs,a,p,j,k,m,o,fun x hx=>by simp[hx]⟩
  ·obtain⟨i,v,c,f,u,k1,k2,k3,k4,k5⟩:=C1 s hm;exact⟨i,v,c,f,u,k1,k2,k3,k4,fun x hx=>by simp[k5 x hx]⟩
open Go.Proofs Go.Proofs.YtembaldpmgjjbaaGreatDoor
theorem PO:prog.globalNamed "internal/strconv.uint64pow10" =some 5:=k_
theorem anP:((Rows.aimPlansUptoRow.laid).filter fun x=>x.2.handleName?.isSome)=[]:=k_
theorem aPr:(prog.globals[5]?).map (·.type)=some 413:=k_
theorem aPs:prog.underlying 413=some (.array 20 295):=k_
theorem aPp:prog.underlying 295=some (.int .u64):=k_
theorem aPn:prog.cellsOf 295=1:=k_
theorem aPo:prog.cellsOf 413=20:=k_
theorem Ur:(match prog.underlying 323 with|some (.interface _)=>true|_=>false)=true:=k_
theorem Lh{W:a1}{t:ay}{cs:List ax}{b:Nat}{n:String}{d:aT Unit}{p:List av}(a:(match prog.underlying t with|some (.interface _)=>true|_=>false)=true)
 (h:a3 (fun _=>()) prog W 0 (fun _=>true) false b t cs=some (.iface n d,p)):∃u v,cs=[.iface u v]:=by
 cases hu:prog.underlying t with
 |none=>rw[hu]at a;cases a
 |some D=>
  rw[hu]at a;cases D<;>(try (cases a;done))
  cases b with
  |zero=>simp[a3]at h
  |succ b=>
   rcases cs with _|⟨c,_|⟨c2,r⟩⟩
   ·simp[a3,hu]at h
   ·cases c<;>first|exact⟨_,_,rfl⟩|simp[a3,hu]at h
   ·cases c<;>simp[a3,hu]at h
theorem LD:prog.globalNamed "strconv.ErrSyntax" =some 3:=k_
theorem LF:prog.globalNamed "strconv.ErrRange" =some 4:=k_
theorem aQy:(prog.globals[3]?).map (·.type)=some 323:=k_
theorem aPI:(prog.globals[4]?).map (·.type)=some 323:=k_
theorem aMj{W:a1}(h:laidMetH prog Rows.aimPlansUptoRow.laid W):qG prog W (fun k=>k<W.heap.size):=by
 unfold laidMetH at h;rw[anP]at h;obtain⟨o,i,_,hz⟩:=h;obtain⟨g,t,cs,fuel,p,k1,k2,k3,k4,k5⟩:=C1 (name:= "internal/strconv.uint64pow10") (d:=Lib.tabData .u64 Lib.pow10Tab) i (by
  show _∈[_,_,_,_,_,_,_];exact bi _ (bi _ bl))
 rw[PO]at k1;cases k1;rw[aPr]at k2;cases k2;have b:=Lib.cells_of_tab aPs aPp aPn aPo k4;have j:cs=Jt:=by rw[Jt,<-b]
 have m:0<cs.size:=by rw[j];decide
 obtain⟨⟨c,T,a⟩,_⟩:=hz 5 0 (k5 _ (by simp[a6];exact m));refine⟨fun g=>by simp[aH,Gl.g],fun g n f=>?_,fun g f=>?_⟩
 ·match g,f with
  |5,f=>
   cases f;refine⟨(am.1 a).1,T,?_⟩;simp only[be,PO,ck,a,cx]at k3;rw[a,k3,j]
 ·have l:g=3\/g=4:=by
   simp only[Gl.EA,Uw,Bool.cond_eq_ite]at f
   split at f
   ·rename_i e;exact .inl (cc e)
   ·exact .inr (cc f)
  rcases l with rfl|rfl
  ·obtain⟨g,t,cs,fuel,p,k1,k2,k3,k4,k5⟩:=C1 (name:= "strconv.ErrSyntax") (d:=Rows.laid_strconv_ErrSyntax) i (by
    show _∈[_,_,_,_,_,_,_]
    iterate 5 refine bi _ ?_
    exact bl)
   rw[LD]at k1;cases k1;rw[aQy]at k2;cases k2;obtain⟨u,v,hc⟩:=Lh Ur k4;have b:cs=#[.iface u v]:=by rw[<-hc]
   obtain⟨⟨c,T,a⟩,_⟩:=hz 3 0 (k5 _ (by simp[a6,b]));refine⟨(am.1 a).1,u,v,T,?_⟩;simp only[be,LD,ck,a,cx]at k3;rw[a,k3,b]
  ·obtain⟨g,t,cs,fuel,p,k1,k2,k3,k4,k5⟩:=C1 (name:= "strconv.ErrRange") (d:=Rows.laid_strconv_ErrRange) i (by
    show _∈[_,_,_,_,_,_,_]
    iterate 4 refine bi _ ?_
    exact bl)
   rw[LF]at k1;cases k1;rw[aPI]at k2;cases k2;obtain⟨u,v,hc⟩:=Lh Ur k4;have b:cs=#[.iface u v]:=by rw[<-hc]
   obtain⟨⟨c,T,a⟩,_⟩:=hz 4 0 (k5 _ (by simp[a6,b]));refine⟨(am.1 a).1,u,v,T,?_⟩;simp only[be,LF,ck,a,cx]at k3;rw[a,k3,b]
section
variable[Gl]{P:a0}
theorem awp{f:FuncId}{args:List PV}{v:PV}(d:Enters P f)(h:al P f args v){w:a1}{ad:Nat->Prop}{a:List ax}(c:∀k,ad k->k<w.heap.size)(g:qG P w ad)(b:bY P w ad args a):
 Calls P f a.toArray w fun e w'=>∃cv,∃aJ:Nat->Prop,e=.returned cv/\w.heap.size<=w'.heap.size/\(∀k,k<w.heap.size->w'.heap[k]?=w.heap[k]?)/\(w'.os=w.os/\w'.output=w.output)/\aH P w' aJ v cv:=by
 rcases h with h|h
 ·refine(h.2 w ad a c g b).mono ?_;rintro e w' ⟨cv,aJ,k1,_,_,_,k5,k6,i,k7⟩;exact⟨cv,aJ,k1,k5,k6,i,k7⟩
 ·obtain⟨cv,k1,_⟩:=h w ad a b;rw[d a.toArray w]at k1;cases k1
theorem aOn{w w':a1}(h:∀k,k<w.heap.size->w'.heap[k]?=w.heap[k]?)(a:w'.os=w.os/\w'.output=w.output)(b:av->Prop):w.keptBut w' b:=by
 refine⟨a.1,a.2,fun i hi=>?_⟩;rw[h i hi];cases w.heap[i]? with
 |none=>rfl
 |some o=>cases o<;>first|exact⟨rfl,rfl,rfl,fun _ _=>rfl⟩|exact .inr ⟨rfl,rfl⟩|rfl
theorem aP6{w w':a1}(h:∀k,k<w.heap.size->w'.heap[k]?=w.heap[k]?){p:av}(a:p.block<w.heap.size):w.sameAt w' p:=by
 cases p with
 |cell b o=>simp only[bf,bb];rw[h b a]
 |map b=>simp only[bf];rw[h b a]
theorem aqB{H:Type}{e:ay×ax->H}{f:Func}{s:a2}{apart fresh handsOn:Bool}{W c:a1}{args:Array ax}{v:ax}{d g:List (aT H)}{a pa pv:List av}
 (j:a5 e P f.params.toList s.vars apart W args.toList d g a)
 (o:∀(b:Nat)(sp:Nat->Bool)(m:Bool),a4 e P c b sp m f.resultTypes.toList (v.resultList f.resultTypes.size) (s.fn H (d++g)).results [])
 (l:∀sp:Nat->Bool,(∀p∈a,sp p.block=true)->a4 e P c 0 sp true f.params.toList args.toList (s.fn H (d++g)).args pa)
 (q:∀sp:Nat->Bool,(∀p∈a,sp p.block=true)->DataW.TrodVars e P c sp s.vars (s.fn H (d++g)).vars pv)
 (n:a=pa++pv)(hk:W.keptBut c (·∈a)):s.post e P f apart fresh handsOn false W args v c:=by
 have k:∀p∈a,(fun b=>decide (b<W.heap.size)) p.block=true:=fun p i=>by simpa using j.lt p i
 refine⟨d,g,a,[],pa,pv,j,o _ _ _,l _ k,q _ k,World.keptBut_mono (fun p i=>⟨i,?_⟩) hk,fun h=>by cases h⟩;rw[n,List.mem_append]at i;exact Or.inr i
end
section
variable{H:Type}{enc:ay×ax->H}{P:a0}{w:a1}
theorem auY{n:Nat}{t:ay}{d:aT H}{cs:List ax}{ad:Nat->Prop}(h:bc P w ad (bO P n t d) cs):
 (((∃fs,P.underlying t=some (.struct fs))\/∃m e,P.underlying t=some (.array m e))/\∃u,aP (bO P n t d)=.agg u)\/((P.underlying t=some .bool\/(∃k,P.underlying t=some (.int k))\/P.underlying t=some .string\/∃e,P.underlying t=some (.slice e))/\aP (bO P n t d)=.leaf):=by
 cases n with
 |zero=>simp only[bO,bc]at h
 |succ n=>
  unfold bO at h⊢
  split at h
  ·rename_i a;exact .inr ⟨.inl a,rfl⟩
  ·rename_i k z a
   split at h
   ·rename_i hz;rw[if_pos hz];exact .inr ⟨.inr (.inl ⟨_,a⟩),rfl⟩
   ·simp only[bc]at h
  ·rename_i a;exact .inr ⟨.inr (.inr (.inl a)),rfl⟩
  ·rename_i a;exact .inr ⟨.inr (.inr (.inr ⟨_,a⟩)),rfl⟩
  ·rename_i a;exact .inr ⟨.inr (.inr (.inr ⟨_,a⟩)),rfl⟩
  ·rename_i a;exact .inl ⟨.inl ⟨_,a⟩,_,rfl⟩
  ·rename_i a;exact .inl ⟨.inr ⟨_,_,a⟩,_,rfl⟩
  ·simp only[bc]at h
theorem auW[Gl]{n:Nat}{t:ay}{v:ax}{d:aT H}{f:List av}{g i:Nat}{r:Reach}(j:n9 P n t=true)(h:DataW.Trod enc P w g (fun _=>true) true t v d f)(b:a7 P w r i t v):
 aH P w (fun k=>k<w.heap.size) (bO P n t d) v:=by
 obtain⟨fuel,h⟩:=h;have hc:=Ap n fuel t _ d f j h;rcases auY hc with⟨a,u,hs⟩|⟨a,hs⟩
 ·have:∃cs,v=.agg cs:=by
   rcases a with⟨fs,a⟩|⟨m,e,a⟩
   ·simp only[a7,a]at b;obtain⟨cs,rfl,_,_⟩:=b;exact⟨cs,rfl⟩
   ·simp only[a7,a]at b;obtain⟨cs,rfl,_,_⟩:=b;exact⟨cs,rfl⟩
  obtain⟨cs,rfl⟩:=this;rw[AA hs]at hc;simpa[a8]using hc
 ·rw[xy hs]at hc;obtain⟨c,hc,l⟩:=hc;have:v=c:=by
   cases v with
   |agg cs=>rcases a with a|⟨k,a⟩|a|⟨e,a⟩<;>simp[a7,a,Cell.okWide,Cell.ok]at b
   |_=>simpa[a8]using hc
  rw[this];exact l
def vt(P:a0)(n:Nat):List ay->List (aT H)->List PV
 |t::ts,d::ds=>bO P n t d::vt P n ts ds
 |_,_=>[]
theorem GF[Gl]{n:Nat}{base:Nat}{r:Reach}:∀{ts:List ay}{vs:List ax}{ds:List (aT H)}{h:List av},(∀t∈ts,n9 P n t=true)->a4 enc P w 0 (fun _=>true) true ts vs ds h->
 (∀(j:Nat) t v,ts[j]?=some t->vs[j]?=some v->a7 P w r base t v)->bY P w (fun k=>k<w.heap.size) (vt P n ts ds) vs/\ds.length=ts.length
 |[],[],[],_,_,_,_=>by simp[vt,bY]
 |t::ts,v::vs,d::ds,_,b,⟨p,q,e,f,_⟩,c=>by
  have⟨i1,i2⟩:=GF (ts:=ts) (vs:=vs) (ds:=ds) (fun t a=>b t (bi _ a)) f (fun j t v a g=>c (j+1) t v (by simpa using a) (by simpa using g));refine⟨?_,by simp[i2]⟩;simp only[vt,bY];exact⟨v,vs,rfl,auW (b t bl) e (c 0 t v rfl rfl),i1⟩
theorem Qn{n:Nat}:∀{ts:List ay}{vs:List ax}{ds:List (aT H)}{g:List av},(∀t∈ts,n9 P n t=true)->a4 enc P w 0 (fun _=>true) true ts vs ds g->
 ∀p∈ts.zip ds,∃cs,bc P w (fun k=>k<w.heap.size) (bO P n p.1 p.2) cs
 |[],[],[],_,_,_=>by simp
 |t::ts,v::vs,d::ds,_,a,⟨p,q,⟨fuel,b⟩,c,_⟩=>by
  have f:=Qn (ts:=ts) (vs:=vs) (ds:=ds) (fun t e=>a t (bi _ e)) c;intro x hx;rw[b2]at hx;rcases b0.1 hx with rfl|hx
  ·exact⟨_,Ap n fuel t _ d p (a t bl) b⟩
  ·exact f x hx
theorem Oa{w':a1}{f:Nat}{g:Nat->Bool}{held:Bool}:∀{c:List ay}{vs:List ax}{a:List (aT H)}{b:List av},a4 enc P w f g held c vs a b->(∀p∈b,w.sameAt w' p)->
 a4 enc P w' f g held c vs a b
 |[],[],[],_,h,_=>h
 |t::c,v::vs,d::a,_,⟨p,q,⟨n,i⟩,j,e⟩,hs=>by
  subst e;exact⟨p,q,⟨n,DataW.trod_carry n _ _ _ i fun x hx=>hs x (List.mem_append_left _ hx)⟩,Oa j fun x hx=>hs x (List.mem_append_right _ hx),rfl⟩
theorem ZI[Gl]{f:FuncId}{fn:Func}{s:a2}{n:Nat}{T:ay->Prop}(r:s.vars=[])(C:∀(H:Type)(a:List (aT H)),a.length=fn.params.size->(s.fn H a).results=[.lit (.bool true)]/\(s.fn H a).args=a/\(s.fn H a).vars=[])
 (K:Kids P T)(hz:∀t e,T t->P.underlying t=some (.slice e)->0<P.cellsOf e)(y:∀t∈fn.params.toList,T t)(o:∀t∈fn.params.toList,n9 P n t=true){tb:ay}(I:fn.resultTypes=#[tb])(A:P.underlying tb=some .bool)
 (B:Enters P f){W:a1}{args:Array ax}{a c:List (aT H)}{w:List av}{u:Nat}(D:qG P W (fun k=>k<W.heap.size))
 (E:(∀p∈fn.params.toList.zip a,∃cs,bc P W (fun k=>k<W.heap.size) (bO P n p.1 p.2) cs)->al P f (vt P n fn.params.toList a) (.bool true))
 (M:∀(j:Nat) t v,fn.params[j]?=some t->args[j]?=some v->a7 P W .any u t v)
 (m:a5 enc P fn.params.toList s.vars false W args.toList a c w):
 Calls P f args W fun e l=>∃v,e=.returned v/\s.post enc P fn false true false false W args v l:=by
 have z:=m;obtain⟨p,q,d,h,rfl,O,Q⟩:=m;rw[r]at h;have⟨i,hlen⟩:=GF o d (fun j t v J L=>M j t v (by simpa using J) (by simpa using L));have F:c=[]/\q=[]:=by
  cases c with
  |nil=>exact⟨rfl,h⟩
  |cons g c=>exact h.elim
 obtain⟨rfl,rfl⟩:=F;have hc:=awp B (E (Qn o d)) (fun k hk=>hk) D i;refine hc.mono ?_;rintro e l ⟨cv,aJ,rfl,k1,k2,k3,k4⟩;refine⟨cv,rfl,?_⟩;obtain⟨f1,f2,f3⟩:=C H (a++[]) (by simpa using hlen);have e1:cv=.bool true:=by simpa[aH]using k4
 have G:=DataW.TrodAll.lt d;refine aqB (pa:=p) (pv:=[]) z ?_ ?_ ?_ rfl (aOn k2 k3 _)
 ·intro b sp N;rw[f1,I,e1];refine⟨[],[],⟨1,?_⟩,rfl,rfl⟩;simp[a3,A,a8]
 ·intro sp hs;rw[f2];simp only[List.append_nil]at hs⊢;exact Oa (DataW.TrodAll.respare K hz y d fun p i=>hs p i) fun x hx=>aP6 k2 (G x hx)
 ·intro sp hs;rw[f3,r];rfl
end
end Go.ae
