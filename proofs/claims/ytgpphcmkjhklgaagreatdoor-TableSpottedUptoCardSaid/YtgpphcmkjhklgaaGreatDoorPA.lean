import Derived.Test.YtgpphcmkjhklgaaGreatDoorThE
import Derived.Deep.Slices
import Derived.Test.YtgpphcmkjhklgaaGreatDoorProg
import Derived.KernelRfl
import Derived.Lib.ItoaNum
import Derived.Test.YtgpphcmkjhklgaaGreatDoorRows
import Derived.Lib.LaidTab
import Derived.ReadAgain
import Derived.ChangeOld
import Derived.RowKit3
import Derived.ChangeSame
import Derived.WideShapes
/- Parts of a proof. -/
set_option linter.unusedSimpArgs false
set_option linter.unusedVariables false
set_option linter.unusedSectionVars false
open Go.Proofs.Tryz
open Array renaming getElem?_eq_some_iff->am
open Bool renaming and_eq_true->an
open Go renaming MemPlace->ao, Value->ap, TypeId->av, DataW->ax, Program->ay, World->aT, ChangeSpec->a0
open Go.DataW renaming trod->a1, TrodAll->a2, Whole->a3
open Go.Value renaming okWide->a4, cells->a5
open Go.World renaming cells?_some->a6, cell?->a7, sameAt->a8
open List renaming getElem?_eq_getElem->a9, mem_cons_of_mem->bb, mem_cons_self->be, range->bi, flatten_append->bk, map_cons->bl, range_succ->bo, map_append->bv, mem_cons->b0, take_of_length_le->b1, zip_cons_cons->b2, replicate->b3, mem_range->b4, take_add->b5, sum_cons->cb
open Nat renaming succ_mul->cc
namespace Go.ag
open Go.Deep
section
variable{H:Type}
def bF(P:ay):Nat->av->ax H->PV
 |0,_,_=>.undef
 |n+1,t,d=>match P.underlying t,d with
  |some .bool,.lit (.bool b)=>.bool b
  |some (.int k),.lit (.int _ z)=>if(Lit.int k z).wf=true then .int k z else .undef
  |some .string,.lit (.string s)=>.str (s.map (·.toNat))
  |some (.slice e),.slice ds _=>.seq (ds.map (bF P n e))
  |some (.slice _),.nil=>.seq []
  |some (.struct fs),.agg ds=>.st (P.underlyingId t) ((fs.toList.zip ds).map fun p=>bF P n p.1.type p.2)
  |some (.array _ e),.agg ds=>.st (P.underlyingId t) (ds.map (bF P n e))
  |_,_=>.undef
def AQ(P:ay):Nat->List Field->Bool
 |_,[]=>true
 |o,f::fs=>(f.offset==o)&&AQ P (o+P.cellsOf f.type) fs
def lP(P:ay):Nat->av->Bool
 |0,_=>false
 |n+1,t=>match P.underlying t with
  |some .bool|some (.int _)|some .string=>true
  |some (.slice e)=>lP P n e&&decide (0<P.cellsOf e)
  |some (.struct fs)=>(dO P (P.underlyingId t)==some (fs.toList.map fun f=>P.cellsOf f.type))&&AQ P 0 fs.toList&&(((fs.toList.map fun f=>P.cellsOf f.type).sum)==P.cellsOf t)&&fs.toList.all fun f=>lP P n f.type
  |some (.array m e)=>(dO P (P.underlyingId t)==some (b3 m (P.cellsOf e)))&&(m*P.cellsOf e==P.cellsOf t)&&lP P n e
  |_=>false
variable{enc:av×ap->H}{P:ay}{w:aT}{base:Nat}{held:Bool}
theorem N5{n k:Nat}{ad:Nat->Prop}(l:∀t cs d u,lP P n t=true->a1 enc P w base (fun _=>true) held k t cs=some (d,u)->aS P w ad (bF P n t d) cs):
 ∀(fs:List Field)(a:List (ax H×List ao))(o:Nat)(cs:List ap),AQ P o fs=true->a.length=fs.length->(∀f∈fs,lP P n f.type=true)->o+(fs.map fun f=>P.cellsOf f.type).sum<=cs.length->
  (∀(i:Nat)(f:Field),fs[i]?=some f->a1 enc P w base (fun _=>true) held k f.type ((cs.drop f.offset).take (P.cellsOf f.type))=a[i]?)->
  bd P w ad (fs.map fun f=>P.cellsOf f.type) ((fs.zip (a.map (·.1))).map fun p=>bF P n p.1.type p.2) (fs.map fun f=>(cs.drop f.offset).take (P.cellsOf f.type))/\
   (fs.map fun f=>(cs.drop f.offset).take (P.cellsOf f.type)).flatten=(cs.drop o).take (fs.map fun f=>P.cellsOf f.type).sum
 |[],a,o,cs,_,b,_,_,_=>by
  have:a=[]:=by simpa using b
  subst this;simp[bd]
 |f::fs,[],o,cs,_,b,_,_,_=>by simp at b
 |f::fs,x::a,o,cs,c,b,h,hlen,hx=>by
  simp only[AQ,an,beq_iff_eq]at c;obtain⟨c,s⟩:=c;simp only[bl,cb]at hlen;have j:=hx 0 f rfl;simp only[List.getElem?_cons_zero]at j;have m:=l _ _ x.1 x.2 (h f be) j;have⟨q,r⟩:=N5 l fs a (o+P.cellsOf f.type) cs s (by simpa using b) (fun g e=>h g (bb _ e)) (by omega) (fun i g e=>by have:=hx (i+1) g (by simpa using e);simpa using this);refine⟨?_,?_⟩
  ·simp only[bl,b2,bd];exact⟨_,_,rfl,m,by simp[c];omega,q⟩
  ·simp only[bl,List.flatten_cons,cb,r,c];rw[<-List.drop_drop,b5]
theorem CD{aj len:Nat}{ad:Nat->Prop}{f:Nat->PV}{g:Nat->List ap}:∀{l:List Nat},(∀i∈l,aS P w ad (f i) (g i)/\(g i).length=aj)->bd P w ad (b3 l.length aj) (l.map f) (l.map g)
 |[],_=>by simp[bd]
 |a::l,h=>by
  simp only[List.length_cons,List.replicate_succ,bl,bd];exact⟨_,_,rfl,(h a be).1,(h a be).2,CD (len:=len) fun i hi=>h i (bb _ hi)⟩
theorem trod_array{m:Nat}{e t:av}{b:Nat}{cs:List ap}{x:ax H×List ao}{d:Nat->Bool}(g:P.underlying t=some (.array m e))(h:a1 enc P w base d held b t cs=some x):
 ∃(a:List (ax H×List ao))(n:Nat),b=n+1/\x=(.agg (a.map (·.1)),a.flatMap (·.2))/\cs.length=P.cellsOf t/\a.length=m/\
  ∀i,i<m->a1 enc P w base d held n e ((cs.drop (i*P.cellsOf e)).take (P.cellsOf e))=a[i]?:=by
 cases b with
 |zero=>simp[a1]at h
 |succ n=>
  unfold a1 at h;rw[g]at h
  split at h<;>simp_all
  obtain⟨j,a,c,f⟩:=h;exact⟨a,f.symm,by simpa using mapM_some_length c,fun i hi=>mapM_some_get c i i (by simp[hi])⟩
theorem Jc{α:Type}{cs:List α}{aj:Nat}:∀m,((bi m).map fun i=>(cs.drop (i*aj)).take aj).flatten=cs.take (m*aj)
 |0=>by simp
 |m+1=>by
  rw[bo,bv,bk,Jc m,cc,b5];simp
theorem DF{V:Nat->List ap}{aj:Nat}:∀(len:Nat),(∀i,i<len->(V i).length=aj)->((bi len).map V).flatten.length=len*aj
 |0,_=>by simp
 |len+1,h=>by
  rw[bo,bv,bk,List.length_append,DF len fun i hi=>h i (by omega),cc];simp[h len (by omega)]
theorem JM{V:Nat->List ap}{aj b o:Nat}:∀(len:Nat),(∀i,i<len->(V i).length=aj)->(∀i,i<len->∀j,j<aj->w.cell? ⟨b,o+(i*aj+j),none⟩=(V i)[j]?)->gL w b o ((bi len).map V).flatten
 |0,_,_=>by intro i hi;simp at hi
 |len+1,h,hc=>by
  intro i hi;have a:=DF (V:=V) (aj:=aj) len fun i hi=>h i (by omega);have c:=JM (V:=V) (aj:=aj) (b:=b) (o:=o) len (fun i hi=>h i (by omega)) (fun i hi=>hc i (by omega));have e:((bi (len+1)).map V).flatten=((bi len).map V).flatten++V len:=by
   rw[bo,bv,bk];simp
  have f:i<len*aj+aj:=by
   have:=DF (V:=V) (aj:=aj) (len+1) h;rw[cc]at this;omega
  rw[<-a9 hi,e]
  by_cases d:i<len*aj
  ·rw[List.getElem?_append_left (by omega),a9 (by omega)];exact c i (by omega)
  ·rw[List.getElem?_append_right (by omega),a];have:=hc len (by omega) (i-len*aj) (by omega);rw[<-this];congr 3;omega
theorem xk:∀(n:Nat)(J:Nat)(t:av)(cs:List ap)(d:ax H)(r:List ao),lP P n t=true->a1 enc P w base (fun _=>true) held J t cs=some (d,r)->
 aS P w (fun k=>k<w.heap.size) (bF P n t d) cs
 |0,_,_,_,_,_,h,_=>by simp[lP]at h
 |n+1,J,t,cs,d,r,h,p=>by
  simp only[lP]at h
  split at h
  ·rename_i o;obtain⟨b,rfl,hx⟩:=DataW.trod_bool o p;cases hx;simp[bF,o,aS]
  ·rename_i k o;obtain⟨z,rfl,hx,E⟩:=DataW.trod_int o p;cases hx;simp[bF,o,E,aS]
  ·rename_i o;obtain⟨s,rfl,hx,_⟩:=DataW.trod_string o p;cases hx;simp[bF,o,aS]
  ·rename_i e o;simp only[an,decide_eq_true_eq]at h;obtain⟨v,B⟩:=h;rcases open_slice o p with⟨rfl,hx⟩|⟨a,len,cap,m,k,D,S,rfl,ac,Y,af,O,hx,U⟩
   ·cases hx;simp[bF,o,aS]
   cases hx;simp only[if_true]at O;subst O;obtain⟨V,q⟩:=choose_lt U;have R:a.spot=none\/m=0:=by
    by_cases E:m=0
    ·exact .inr E
    left;obtain⟨c1,_⟩:=q 0 (by omega);obtain⟨_,c2,c3⟩:=a6 c1;have c4:=c3 0 B;rw[a9 (by omega)]at c4;simp only[Addr.add,Nat.zero_mul,if_true]at c4;unfold a7 at c4
    split at c4
    ·split at c4
     ·cases c4
     ·rename_i hs;simpa using hs
    ·cases c4
   have M:∀i,i<m->∀j,j<P.cellsOf e->w.cell? ⟨a.block,a.off+(i*P.cellsOf e+j),none⟩=(V i)[j]?:=by
    intro i hi j X;have hs:a.spot=none:=R.resolve_right (by omega);obtain⟨_,_,c3⟩:=a6 (q i hi).1;have:=c3 j X;rw[add_add]at this;rw[<-this];obtain⟨F,G,I⟩:=a;simp only at hs;subst hs;unfold Addr.add;split<;>simp_all
   have A:∀i,i<m->(V i).length=P.cellsOf e:=fun i hi=>(a6 (q i hi).1).2.1;simp only[bF,o,aS];right;obtain⟨F,G,I⟩:=a;refine⟨F,G,m,P.cellsOf e,(bi len).map V,?_,?_,?_,by simpa using Y,I,R,by simp⟩
   ·have:=CD (P:=P) (w:=w) (len:=len) (aj:=P.cellsOf e) (ad:=fun k=>k<w.heap.size) (f:=fun i=>bF P n e (D i)) (g:=V) (l:=bi len) (fun i hi=>by
     have hi:i<m:=by have:=b4.1 hi;omega
     exact⟨xk n k e (V i) (D i) (S i) v (q i hi).2,A i hi⟩)
    simpa[Function.comp_def]using this
   ·intro Z;have ab:0<len:=by
     rcases Nat.eq_zero_or_pos len with h|h
     ·subst h;simp at Z
     ·exact h
    have c:=M 0 (by omega) 0 B;rw[a9 (by rw[A 0 (by omega)];exact B)]at c;unfold a7 at c
    split at c
    ·rename_i y;exact(am.1 y).1
    ·cases c
   ·exact JM len (fun i hi=>A i (by omega)) (fun i hi=>M i (by omega))
  ·rename_i fs o;simp only[an,beq_iff_eq,List.all_eq_true]at h;obtain⟨⟨⟨u,K⟩,L⟩,T⟩:=h;obtain⟨xs,k,rfl,hx,hlen,C,hf⟩:=DataW.trod_struct o p;cases hx;have⟨g1,g2⟩:=N5 (ad:=fun k=>k<w.heap.size) (fun t cs d r aa y=>xk n k t cs d r aa y) fs.toList xs 0 cs K (by simpa using C) T (by omega) (fun i f hi=>hf i f (by simpa using hi));simp only[bF,o,aS];refine⟨_,_,u,g1,?_⟩;rw[g2,List.drop_zero,b1 (by omega)]
  ·rename_i m e o;simp only[an,beq_iff_eq]at h;obtain⟨⟨u,K⟩,L⟩:=h;obtain⟨xs,k,rfl,hx,hlen,C,hf⟩:=trod_array o p;cases hx;have Q:=CD (P:=P) (w:=w) (len:=m) (aj:=P.cellsOf e) (ad:=fun k=>k<w.heap.size) (f:=fun i=>match xs[i]? with
     |some x=>bF P n e x.1
     |none=>.undef) (g:=fun i=>(cs.drop (i*P.cellsOf e)).take (P.cellsOf e)) (l:=bi m) (fun i hi=>by
      have hi:i<m:=b4.1 hi;have N:=hf i hi;rw[a9 (by omega)]at N⊢;refine⟨xk n k e _ xs[i].1 xs[i].2 L N,?_⟩;have:(i+1)*P.cellsOf e<=m*P.cellsOf e:=Nat.mul_le_mul_right _ hi;rw[cc]at this;simp;omega)
   have v:((bi m).map fun i=>match xs[i]? with
    |some x=>bF P n e x.1
    |none=>.undef)=(xs.map (·.1)).map (bF P n e):=by
    apply List.ext_getElem
    ·simp[C]
    ·intro i W ae;simp at W;simp[a9 (show i<xs.length by omega)]
   rw[v,List.length_range]at Q;simp only[bF,o,aS];refine⟨_,_,u,Q,?_⟩;rw[Jc,b1 (by omega)]
  ·cases h
end
open Go.Proofs
def FP:Array ap:=(Lib.pow10Tab.map fun z=>Value.int .u64 z).toArray
def aF0:Nat->Option (Array ap)
 |1=>some FP
 |_=>none
instance arN:Gl:=⟨fun _=>.undef,5,aF0,fun u=>bif Nat.beq u 224 then some 225 else none⟩
@[simp] theorem ki3:kindOf prog 3=.leaf:=by kernel_rfl
@[simp] theorem FV:prog.underlying 3=some (.int .i64):=by kernel_rfl
@[simp] theorem tz3:cO prog 3=some (.int .i64 (0)):=by kernel_rfl
@[simp] theorem ki4:kindOf prog 4=.leaf:=by kernel_rfl
@[simp] theorem ib4:rU prog 4=true:=by kernel_rfl
@[simp] theorem tz4:cO prog 4=some (.bool false):=by kernel_rfl
@[simp] theorem tz5:cO prog 5=some (.int .u8 (0)):=by kernel_rfl
@[simp] theorem ki9:kindOf prog 9=.leaf:=by kernel_rfl
@[simp] theorem FW:prog.underlying 9=some .string:=by kernel_rfl
@[simp] theorem at9:iF prog 9=true:=by kernel_rfl
@[simp] theorem tz9:cO prog 9=some (.str []):=by kernel_rfl
@[simp] theorem aLr:kindOf prog 22=.leaf:=by kernel_rfl
@[simp] theorem aHn:prog.underlying 22=some (.slice 108):=by kernel_rfl
@[simp] theorem aKc:iF prog 22=true:=by kernel_rfl
@[simp] theorem aKw:cL prog 22=some 2:=by kernel_rfl
@[simp] theorem aKM:eH prog 22=108:=by kernel_rfl
@[simp] theorem aLu:kindOf prog 23=.leaf:=by kernel_rfl
@[simp] theorem aHo:prog.underlying 23=some (.slice 53):=by kernel_rfl
@[simp] theorem aKy:cL prog 23=some 4:=by kernel_rfl
@[simp] theorem aLv:kindOf prog 24=.leaf:=by kernel_rfl
@[simp] theorem aHq:prog.underlying 24=some (.slice 75):=by kernel_rfl
@[simp] theorem aKz:cL prog 24=some 3:=by kernel_rfl
@[simp] theorem aLw:kindOf prog 26=.agg 25:=by kernel_rfl
@[simp] theorem aMx:fO prog 26=some (25,4):=by kernel_rfl
@[simp] theorem aLx:kindOf prog 29=.leaf:=by kernel_rfl
@[simp] theorem FU:prog.underlying 29=some .string:=by kernel_rfl
@[simp] theorem aMU:cO prog 29=some (.str []):=by kernel_rfl
@[simp] theorem aLz:kindOf prog 30=.leaf:=by kernel_rfl
@[simp] theorem aMW:cO prog 30=some (.int .i64 (0)):=by kernel_rfl
@[simp] theorem aLB:kindOf prog 33=.leaf:=by kernel_rfl
@[simp] theorem aKe:iF prog 33=true:=by kernel_rfl
@[simp] theorem aKC:cL prog 33=some 4:=by kernel_rfl
@[simp] theorem aKQ:eH prog 33=123:=by kernel_rfl
@[simp] theorem aLC:kindOf prog 34=.leaf:=by kernel_rfl
@[simp] theorem aKf:iF prog 34=true:=by kernel_rfl
@[simp] theorem aKD:cL prog 34=some 3:=by kernel_rfl
@[simp] theorem aKR:eH prog 34=144:=by kernel_rfl
@[simp] theorem aLD:kindOf prog 36=.agg 35:=by kernel_rfl
@[simp] theorem aMy:fO prog 36=some (35,4):=by kernel_rfl
@[simp] theorem aMY:cO prog 36=some (.st 35 [.aW,.int .i64 (0),.aW,.aW]):=by kernel_rfl
@[simp] theorem aLG:kindOf prog 42=.agg 41:=by kernel_rfl
@[simp] theorem aMz:fO prog 42=some (41,2):=by kernel_rfl
@[simp] theorem aM0:cO prog 42=some (.st 41 [.str [],.str []]):=by kernel_rfl
@[simp] theorem aLH:kindOf prog 53=.agg 52:=by kernel_rfl
@[simp] theorem aMA:fO prog 53=some (52,4):=by kernel_rfl
@[simp] theorem aM2:cO prog 53=some (.st 52 [.str [],.int .i64 (0),.str [],.str []]):=by kernel_rfl
@[simp] theorem aHv:prog.underlying 62=some (.slice 182):=by kernel_rfl
@[simp] theorem aKE:cL prog 62=some 3:=by kernel_rfl
@[simp] theorem aLI:kindOf prog 64=.agg 63:=by kernel_rfl
@[simp] theorem aMB:fO prog 64=some (63,2):=by kernel_rfl
@[simp] theorem aKg:iF prog 68=true:=by kernel_rfl
@[simp] theorem aKF:cL prog 68=some 3:=by kernel_rfl
@[simp] theorem aKS:eH prog 68=124:=by kernel_rfl
@[simp] theorem aLJ:kindOf prog 75=.agg 74:=by kernel_rfl
@[simp] theorem aMC:fO prog 75=some (74,2):=by kernel_rfl
@[simp] theorem aM3:cO prog 75=some (.st 74 [.str [],.st 41 [.str [],.str []]]):=by kernel_rfl
@[simp] theorem aKG:cL prog 79=some 2:=by kernel_rfl
@[simp] theorem aKT:eH prog 79=42:=by kernel_rfl
@[simp] theorem aLe:kindOf prog 108=.agg 107:=by kernel_rfl
@[simp] theorem aMo:fO prog 108=some (107,2):=by kernel_rfl
@[simp] theorem aMJ:cO prog 108=some (.st 107 [.int .i64 (0),.int .i64 (0)]):=by kernel_rfl
@[simp] theorem aLf:kindOf prog 123=.agg 52:=by kernel_rfl
@[simp] theorem aMp:fO prog 123=some (52,4):=by kernel_rfl
@[simp] theorem aMK:cO prog 123=some (.st 52 [.str [],.int .i64 (0),.str [],.str []]):=by kernel_rfl
@[simp] theorem aLg:kindOf prog 124=.agg 74:=by kernel_rfl
@[simp] theorem aMq:fO prog 124=some (74,2):=by kernel_rfl
@[simp] theorem aML:cO prog 124=some (.st 74 [.str [],.st 41 [.str [],.str []]]):=by kernel_rfl
@[simp] theorem aLh:kindOf prog 129=.leaf:=by kernel_rfl
@[simp] theorem aKt:cL prog 129=some 1:=by kernel_rfl
@[simp] theorem aKJ:eH prog 129=304:=by kernel_rfl
@[simp] theorem aLi:kindOf prog 131=.agg 130:=by kernel_rfl
@[simp] theorem aMr:fO prog 131=some (130,2):=by kernel_rfl
@[simp] theorem aMM:cO prog 131=some (.st 130 [.int .i64 (0),.aW]):=by kernel_rfl
@[simp] theorem aLj:kindOf prog 133=.agg 132:=by kernel_rfl
@[simp] theorem aMs:fO prog 133=some (132,2):=by kernel_rfl
@[simp] theorem aMN:cO prog 133=some (.st 132 [.st 130 [.int .i64 (0),.aW],.st 130 [.int .i64 (0),.aW]]):=by kernel_rfl
@[simp] theorem aLk:kindOf prog 139=.agg 138:=by kernel_rfl
@[simp] theorem aJ8:gV prog 139=some (138,2):=by kernel_rfl
@[simp] theorem aMO:cO prog 139=some (.st 138 [.st 132 [.st 130 [.int .i64 (0),.aW],.st 130 [.int .i64 (0),.aW]],.st 132 [.st 130 [.int .i64 (0),.aW],.st 130 [.int .i64 (0),.aW]]]):=by kernel_rfl
@[simp] theorem aLl:kindOf prog 140=.agg 140:=by kernel_rfl
@[simp] theorem aJ9:gV prog 140=some (140,2):=by kernel_rfl
@[simp] theorem aMP:cO prog 140=some (.st 140 [.st 138 [.st 132 [.st 130 [.int .i64 (0),.aW],.st 130 [.int .i64 (0),.aW]],.st 132 [.st 130 [.int .i64 (0),.aW],.st 130 [.int .i64 (0),.aW]]],.st 138 [.st 132 [.st 130 [.int .i64 (0),.aW],.st 130 [.int .i64 (0),.aW]],.st 132 [.st 130 [.int .i64 (0),.aW],.st 130 [.int .i64 (0),.aW]]]]):=by kernel_rfl
@[simp] theorem aLm:kindOf prog 144=.agg 74:=by kernel_rfl
@[simp] theorem aMt:fO prog 144=some (74,2):=by kernel_rfl
@[simp] theorem aMQ:cO prog 144=some (.st 74 [.str [],.st 41 [.str [],.str []]]):=by kernel_rfl
@[simp] theorem aLn:kindOf prog 165=.leaf:=by kernel_rfl
@[simp] theorem aKb:iF prog 165=true:=by kernel_rfl
@[simp] theorem aKu:cL prog 165=some 1:=by kernel_rfl
@[simp] theorem aKK:eH prog 165=3:=by kernel_rfl
@[simp] theorem aLo:kindOf prog 167=.agg 166:=by kernel_rfl
@[simp] theorem aMu:fO prog 167=some (166,2):=by kernel_rfl
@[simp] theorem aMR:cO prog 167=some (.st 166 [.bool false,.aW]):=by kernel_rfl
@[simp] theorem aLp:kindOf prog 179=.leaf:=by kernel_rfl
@[simp] theorem aKv:cL prog 179=some 1:=by kernel_rfl
@[simp] theorem aKL:eH prog 179=29:=by kernel_rfl
@[simp] theorem aLq:kindOf prog 182=.agg 74:=by kernel_rfl
@[simp] theorem aMv:fO prog 182=some (74,2):=by kernel_rfl
@[simp] theorem aMS:cO prog 182=some (.st 74 [.str [],.st 41 [.str [],.str []]]):=by kernel_rfl
@[simp] theorem aLs:kindOf prog 223=.leaf:=by kernel_rfl
@[simp] theorem aKx:cL prog 223=some 1:=by kernel_rfl
@[simp] theorem aKN:eH prog 223=5:=by kernel_rfl
@[simp] theorem aLt:kindOf prog 225=.agg 224:=by kernel_rfl
@[simp] theorem aMw:fO prog 225=some (224,2):=by kernel_rfl
@[simp] theorem aMT:cO prog 225=some (.st 224 [.dJ,.aW]):=by kernel_rfl
@[simp] theorem aKA:cL prog 247=some 1:=by kernel_rfl
@[simp] theorem aKO:eH prog 247=30:=by kernel_rfl
@[simp] theorem aKd:iF prog 287=true:=by kernel_rfl
@[simp] theorem aKB:cL prog 287=some 1:=by kernel_rfl
@[simp] theorem aKP:eH prog 287=9:=by kernel_rfl
@[simp] theorem aLA:kindOf prog 304=.leaf:=by kernel_rfl
@[simp] theorem aMX:cO prog 304=some (.int .u64 (0)):=by kernel_rfl
@[simp] theorem aLE:kindOf prog 373=.agg 372:=by kernel_rfl
@[simp] theorem aKa:gV prog 373=some (372,256):=by kernel_rfl
@[simp] theorem aGN:dO prog 25=some [1,1,1,1]:=by kernel_rfl
@[simp] theorem aMI:dO prog 35=some [1,1,1,1]:=by kernel_rfl
@[simp] theorem aGO:dO prog 41=some [1,1]:=by kernel_rfl
@[simp] theorem aGP:dO prog 52=some [1,1,1,1]:=by kernel_rfl
@[simp] theorem aGT:dO prog 63=some [1,2]:=by kernel_rfl
@[simp] theorem RL:dO prog 74=some [1,2]:=by kernel_rfl
@[simp] theorem aGM:dO prog 107=some [1,1]:=by kernel_rfl
@[simp] theorem aMD:dO prog 130=some [1,1]:=by kernel_rfl
@[simp] theorem aME:dO prog 132=some [2,2]:=by kernel_rfl
@[simp] theorem aMF:dO prog 138=some [4,4]:=by kernel_rfl
@[simp] theorem aMG:dO prog 140=some [8,8]:=by kernel_rfl
@[simp] theorem aMH:dO prog 166=some [1,1]:=by kernel_rfl
set_option maxRecDepth 100000
section
variable{H:Type}{w:aT}{ad:Nat->Prop}
theorem Gj{P:ay}:∀{l:List Nat}{d:List PV}{b:List (List ap)},bd P w ad l d b->∀e∈d,∃c,aS P w ad e c
 |_,[],_,_=>fun e a=>by cases a
 |[],v::vs,_,h=>by simp[bd]at h
 |n::i,v::vs,b,h=>by
  simp only[bd]at h;obtain⟨c,cs,_,f,_,g⟩:=h;intro e a;rcases b0.1 a with rfl|a
  ·exact⟨c,f⟩
  ·exact Gj g e a
theorem vN{n:Nat}(d:ax H)(c)(h:aS prog w ad (bF prog (n+1) 3 d) c):∃z:Int,bF prog (n+1) 3 d=.int .i64 z:=by
 cases d with
 |lit l=>
  cases l with
  |int k z=>
   simp only[bF,FV]at h⊢
   split at h
   ·rename_i a;rw[if_pos a];exact⟨_,rfl⟩
   ·simp only[aS]at h
  |_=>simp only[bF,FV,aS]at h
 |_=>simp only[bF,FV,aS]at h
end
theorem IY{P:ay}{W:aT}{name:String}{d:ax Unit}:∀{l:List (String×ax Unit)}{b:List ao},DataW.LaidVars P W l b->(name,d)∈l->
 ∃g t cs a p,P.globalNamed name=some g/\(P.globals[g]?).map (·.type)=some t/\W.var? P name=some cs/\a1 (fun _=>()) P W 0 (fun _=>true) false a t cs.toList=some (d,p)/\∀x∈MemPlace.row ⟨g,0,none⟩ cs.size,x∈b
 |[],_,_,h=>by cases h
 |(n,d0)::r,b,h,hm=>by
  obtain⟨g,t,cs,a,p,q,j,k,m,o,s,rfl⟩:=h;rcases b0.1 hm with e|hm
  ·cases e;exact⟨g,t,cs,a,p,j,k,m,o,fun x hx=>by simp[hx]⟩
  ·obtain⟨i,v,c,f,u,k1,k2,k3,k4,k5⟩:=IY s hm;exact⟨i,v,c,f,u,k1,k2,k3,k4,fun x hx=>by simp[k5 x hx]⟩
open Go.Proofs Go.Proofs.YtgpphcmkjhklgaaGreatDoor
theorem KL:prog.globalNamed "internal/strconv.uint64pow10" =some 1:=by kernel_rfl
theorem U5:((Rows.tableChecksUptoRow.laid).filter fun x=>x.2.handleName?.isSome)=[]:=by kernel_rfl
theorem aFM:(prog.globals[1]?).map (·.type)=some 396:=by kernel_rfl
theorem aFO:prog.underlying 396=some (.array 20 304):=by kernel_rfl
theorem aFJ:prog.underlying 304=some (.int .u64):=by kernel_rfl
theorem aFE:prog.cellsOf 304=1:=by kernel_rfl
theorem aFI:prog.cellsOf 396=20:=by kernel_rfl
theorem vD{W:aT}(h:laidMetH prog Rows.tableChecksUptoRow.laid W):mY prog W (fun k=>k<W.heap.size):=by
 unfold laidMetH at h;rw[U5]at h;obtain⟨n,j,_,l⟩:=h;obtain⟨g,t,cs,fuel,p,k1,k2,k3,k4,k5⟩:=IY (name:= "internal/strconv.uint64pow10") (d:=Lib.tabData .u64 Lib.pow10Tab) j (by
  show _∈[_,_,_,_,_,_,_];exact bb _ (bb _ be))
 rw[KL]at k1;cases k1;rw[aFM]at k2;cases k2;have f:=Lib.cells_of_tab aFO aFJ aFE aFI k4;have e:cs=FP:=by rw[FP,<-f]
 have i:0<cs.size:=by rw[e];decide
 obtain⟨⟨c,T,b⟩,_⟩:=l 1 0 (k5 _ (by simp[MemPlace.row];exact i));refine⟨fun g=>by simp[aC,Gl.g],fun g m a=>?_⟩
 match g,a with
 |1,a=>
  cases a;refine⟨(am.1 b).1,T,?_⟩;simp only[World.var?,KL,Option.bind_some,b,Option.some.injEq]at k3;rw[b,k3,e]
section
variable[Gl]{P:ay}
theorem YM{f:FuncId}{args:List PV}{v:PV}(g:Enters P f)(h:aA P f args v){w:aT}{ad:Nat->Prop}{a:List ap}(d:∀k,ad k->k<w.heap.size)(i:mY P w ad)(c:bw P w ad args a):
 Calls P f a.toArray w fun e w'=>∃b,∃aF:Nat->Prop,e=.returned b/\w.heap.size<=w'.heap.size/\(∀k,k<w.heap.size->w'.heap[k]?=w.heap[k]?)/\(w'.os=w.os/\w'.output=w.output)/\aC P w' aF v b:=by
 rcases h with h|h
 ·refine(h.2 w ad a d i c).mono ?_;rintro e w' ⟨b,aF,k1,_,_,_,k5,k6,j,k7⟩;exact⟨b,aF,k1,k5,k6,j,k7⟩
 ·obtain⟨b,k1,_⟩:=h w ad a c;rw[g a.toArray w]at k1;cases k1
theorem aDt{w w':aT}(h:∀k,k<w.heap.size->w'.heap[k]?=w.heap[k]?)(a:w'.os=w.os/\w'.output=w.output)(b:ao->Prop):w.keptBut w' b:=by
 refine⟨a.1,a.2,fun i hi=>?_⟩;rw[h i hi];cases w.heap[i]? with
 |none=>rfl
 |some o=>cases o<;>first|exact⟨rfl,rfl,rfl,fun _ _=>rfl⟩|exact .inr ⟨rfl,rfl⟩|rfl
theorem aGh{w w':aT}(h:∀k,k<w.heap.size->w'.heap[k]?=w.heap[k]?){p:ao}(a:p.block<w.heap.size):w.sameAt w' p:=by
 cases p with
 |cell b o=>simp only[a8,a7];rw[h b a]
 |map b=>simp only[a8];rw[h b a]
theorem Vr{H:Type}{e:av×ap->H}{f:Func}{s:a0}{apart fresh handsOn:Bool}{W c:aT}{args:Array ap}{v:ap}{d g:List (ax H)}{a pa pv:List ao}
 (j:a3 e P f.params.toList s.vars apart W args.toList d g a)
 (o:∀(b:Nat)(sp:Nat->Bool)(m:Bool),a2 e P c b sp m f.resultTypes.toList (v.resultList f.resultTypes.size) (s.fn H (d++g)).results [])
 (l:∀sp:Nat->Bool,(∀p∈a,sp p.block=true)->a2 e P c 0 sp true f.params.toList args.toList (s.fn H (d++g)).args pa)
 (q:∀sp:Nat->Bool,(∀p∈a,sp p.block=true)->DataW.TrodVars e P c sp s.vars (s.fn H (d++g)).vars pv)
 (n:a=pa++pv)(hk:W.keptBut c (·∈a)):s.post e P f apart fresh handsOn false W args v c:=by
 have k:∀p∈a,(fun b=>decide (b<W.heap.size)) p.block=true:=fun p i=>by simpa using j.lt p i
 refine⟨d,g,a,[],pa,pv,j,o _ _ _,l _ k,q _ k,World.keptBut_mono (fun p i=>⟨i,?_⟩) hk,fun h=>by cases h⟩;rw[n,List.mem_append]at i;exact Or.inr i
end
section
variable{H:Type}{enc:av×ap->H}{P:ay}{w:aT}
theorem Xr{n:Nat}{t:av}{d:ax H}{cs:List ap}{ad:Nat->Prop}(h:aS P w ad (bF P n t d) cs):
 (((∃fs,P.underlying t=some (.struct fs))\/∃m e,P.underlying t=some (.array m e))/\∃u,aM (bF P n t d)=.agg u)\/((P.underlying t=some .bool\/(∃k,P.underlying t=some (.int k))\/P.underlying t=some .string\/∃e,P.underlying t=some (.slice e))/\aM (bF P n t d)=.leaf):=by
 cases n with
 |zero=>simp only[bF,aS]at h
 |succ n=>
  unfold bF at h⊢
  split at h
  ·rename_i a;exact .inr ⟨.inl a,rfl⟩
  ·rename_i k z a
   split at h
   ·rename_i b;rw[if_pos b];exact .inr ⟨.inr (.inl ⟨_,a⟩),rfl⟩
   ·simp only[aS]at h
  ·rename_i a;exact .inr ⟨.inr (.inr (.inl a)),rfl⟩
  ·rename_i a;exact .inr ⟨.inr (.inr (.inr ⟨_,a⟩)),rfl⟩
  ·rename_i a;exact .inr ⟨.inr (.inr (.inr ⟨_,a⟩)),rfl⟩
  ·rename_i a;exact .inl ⟨.inl ⟨_,a⟩,_,rfl⟩
  ·rename_i a;exact .inl ⟨.inr ⟨_,_,a⟩,_,rfl⟩
  ·simp only[aS]at h
theorem Xp[Gl]{n:Nat}{t:av}{v:ap}{d:ax H}{f:List ao}{g i:Nat}{r:Reach}(j:lP P n t=true)(h:DataW.Trod enc P w g (fun _=>true) true t v d f)(b:a4 P w r i t v):
 aC P w (fun k=>k<w.heap.size) (bF P n t d) v:=by
 obtain⟨fuel,h⟩:=h;have hc:=xk n fuel t _ d f j h;rcases Xr hc with⟨a,u,hs⟩|⟨a,hs⟩
 ·have:∃cs,v=.agg cs:=by
   rcases a with⟨fs,a⟩|⟨m,e,a⟩
   ·simp only[a4,a]at b;obtain⟨cs,rfl,_,_⟩:=b;exact⟨cs,rfl⟩
   ·simp only[a4,a]at b;obtain⟨cs,rfl,_,_⟩:=b;exact⟨cs,rfl⟩
  obtain⟨cs,rfl⟩:=this;rw[xy hs]at hc;simpa[a5]using hc
 ·rw[uk hs]at hc;obtain⟨c,hc,l⟩:=hc;have:v=c:=by
   cases v with
   |agg cs=>rcases a with a|⟨k,a⟩|a|⟨e,a⟩<;>simp[a4,a,Cell.okWide,Cell.ok]at b
   |_=>simpa[a5]using hc
  rw[this];exact l
def jy(P:ay)(n:Nat):List av->List (ax H)->List PV
 |t::ts,d::ds=>bF P n t d::jy P n ts ds
 |_,_=>[]
theorem sc[Gl]{n:Nat}{base:Nat}{r:Reach}:∀{ts:List av}{vs:List ap}{ds:List (ax H)}{h:List ao},(∀t∈ts,lP P n t=true)->a2 enc P w 0 (fun _=>true) true ts vs ds h->
 (∀(j:Nat) t v,ts[j]?=some t->vs[j]?=some v->a4 P w r base t v)->bw P w (fun k=>k<w.heap.size) (jy P n ts ds) vs/\ds.length=ts.length
 |[],[],[],_,_,_,_=>by simp[jy,bw]
 |t::ts,v::vs,d::ds,_,b,⟨p,q,e,f,_⟩,c=>by
  have⟨i1,i2⟩:=sc (ts:=ts) (vs:=vs) (ds:=ds) (fun t a=>b t (bb _ a)) f (fun j t v a g=>c (j+1) t v (by simpa using a) (by simpa using g));refine⟨?_,by simp[i2]⟩;simp only[jy,bw];exact⟨v,vs,rfl,Xp (b t be) e (c 0 t v rfl rfl),i1⟩
theorem Lq{n:Nat}:∀{ts:List av}{vs:List ap}{ds:List (ax H)}{g:List ao},(∀t∈ts,lP P n t=true)->a2 enc P w 0 (fun _=>true) true ts vs ds g->
 ∀p∈ts.zip ds,∃cs,aS P w (fun k=>k<w.heap.size) (bF P n p.1 p.2) cs
 |[],[],[],_,_,_=>by simp
 |t::ts,v::vs,d::ds,_,a,⟨p,q,⟨fuel,b⟩,c,_⟩=>by
  have f:=Lq (ts:=ts) (vs:=vs) (ds:=ds) (fun t e=>a t (bb _ e)) c;intro x hx;rw[b2]at hx;rcases b0.1 hx with rfl|hx
  ·exact⟨_,xk n fuel t _ d p (a t be) b⟩
  ·exact f x hx
theorem IP{w':aT}{f:Nat}{g:Nat->Bool}{held:Bool}:∀{c:List av}{vs:List ap}{a:List (ax H)}{b:List ao},a2 enc P w f g held c vs a b->(∀p∈b,w.sameAt w' p)->
 a2 enc P w' f g held c vs a b
 |[],[],[],_,h,_=>h
 |t::c,v::vs,d::a,_,⟨p,q,⟨n,i⟩,j,e⟩,hs=>by
  subst e;exact⟨p,q,⟨n,DataW.trod_carry n _ _ _ i fun x hx=>hs x (List.mem_append_left _ hx)⟩,IP j fun x hx=>hs x (List.mem_append_right _ hx),rfl⟩
theorem xH[Gl]{f:FuncId}{fn:Func}{s:a0}{n:Nat}{T:av->Prop}(u:s.vars=[])(D:∀(H:Type)(a:List (ax H)),a.length=fn.params.size->(s.fn H a).results=[.lit (.bool true)]/\(s.fn H a).args=a/\(s.fn H a).vars=[])
 (K:Kids P T)(O:∀t e,T t->P.underlying t=some (.slice e)->0<P.cellsOf e)(z:∀t∈fn.params.toList,T t)(r:∀t∈fn.params.toList,lP P n t=true){tb:av}(J:fn.resultTypes=#[tb])(B:P.underlying tb=some .bool)
 (C:Enters P f){W:aT}{args:Array ap}{a c:List (ax H)}{y:List ao}{w:Nat}(E:mY P W (fun k=>k<W.heap.size))
 (F:(∀p∈fn.params.toList.zip a,∃cs,aS P W (fun k=>k<W.heap.size) (bF P n p.1 p.2) cs)->aA P f (jy P n fn.params.toList a) (.bool true))
 (N:∀(j:Nat) t v,fn.params[j]?=some t->args[j]?=some v->a4 P W .any w t v)
 (o:a3 enc P fn.params.toList s.vars false W args.toList a c y):
 Calls P f args W fun e l=>∃v,e=.returned v/\s.post enc P fn false true false false W args v l:=by
 have A:=o;obtain⟨p,q,d,h,rfl,R,S⟩:=o;rw[u]at h;have⟨i,hlen⟩:=sc r d (fun j t v L M=>N j t v (by simpa using L) (by simpa using M));have G:c=[]/\q=[]:=by
  cases c with
  |nil=>exact⟨rfl,h⟩
  |cons g c=>exact h.elim
 obtain⟨rfl,rfl⟩:=G;have hc:=YM C (F (Lq r d)) (fun k hk=>hk) E i;refine hc.mono ?_;rintro e l ⟨m,aF,rfl,k1,k2,k3,k4⟩;refine⟨m,rfl,?_⟩;obtain⟨f1,f2,f3⟩:=D H (a++[]) (by simpa using hlen);have e1:m=.bool true:=by simpa[aC]using k4
 have I:=DataW.TrodAll.lt d;refine Vr (pa:=p) (pv:=[]) A ?_ ?_ ?_ rfl (aDt k2 k3 _)
 ·intro b sp Q;rw[f1,J,e1];refine⟨[],[],⟨1,?_⟩,rfl,rfl⟩;simp[a1,B,a5]
 ·intro sp hs;rw[f2];simp only[List.append_nil]at hs⊢;exact IP (DataW.TrodAll.respare K O z d fun p i=>hs p i) fun x hx=>aGh k2 (I x hx)
 ·intro sp hs;rw[f3,u];rfl
end
end Go.ag
