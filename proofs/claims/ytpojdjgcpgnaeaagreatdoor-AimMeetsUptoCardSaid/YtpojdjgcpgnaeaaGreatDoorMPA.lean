import Derived.Test.YtpojdjgcpgnaeaaGreatDoorMThC
import Derived.Deep.Slices
import Derived.Test.YtpojdjgcpgnaeaaGreatDoorProg
import Derived.KernelRfl
import Derived.Lib.ItoaNum
import Derived.Test.YtpojdjgcpgnaeaaGreatDoorRows
import Derived.Lib.LaidTab
import Derived.ReadAgain
import Derived.ChangeOld
import Derived.RowKit3
import Derived.ChangeSame
import Derived.WideShapes
/- Parts of a proof. -/
set_option maxRecDepth 100000
set_option linter.unusedSimpArgs false
set_option linter.unusedVariables false
set_option linter.unusedSectionVars false
open Go.Proofs.Tryz
open Array renaming getElem?_eq_some_iff->aj
open Bool renaming and_eq_true->ak
open Go renaming MemPlace->am, Value->ao, TypeId->av, DataW->ax, Program->ay, World->aT, ChangeSpec->a0
open Go.DataW renaming trod->a4, TrodAll->a5, Whole->a6
open Go.MemPlace renaming row->a7
open Go.Value renaming okWide->a8, cells->a9
open Go.World renaming cells?_some->bb, cell?->be, var?->bi, sameAt->bl
open List renaming mem_cons_of_mem->bo, mem_cons_self->bv, getElem?_eq_getElem->bw, range->b0, flatten_append->b1, map_cons->b2, range_succ->b3, map_append->b4, mem_cons->b5, take_of_length_le->ca, zip_cons_cons->cb, replicate->cc, mem_range->ck, take_add->cx, sum_cons->cy
open Nat renaming succ_mul->c6, eq_of_beq_eq_true->c9, beq->da
open Option renaming bind_some->db
open Option.some renaming injEq->dg
namespace Go.az
open Go.Deep
section
variable{H:Type}
def bM(P:ay):Nat->av->ax H->PV
 |0,_,_=>.undef
 |n+1,t,d=>match P.underlying t,d with
  |some .bool,.lit (.bool b)=>.bool b
  |some (.int k),.lit (.int _ z)=>if(Lit.int k z).wf=true then .int k z else .undef
  |some .string,.lit (.string s)=>.str (s.map (·.toNat))
  |some (.slice e),.slice ds _=>.seq (ds.map (bM P n e))
  |some (.slice _),.nil=>.seq []
  |some (.struct fs),.agg ds=>.st (P.underlyingId t) ((fs.toList.zip ds).map fun p=>bM P n p.1.type p.2)
  |some (.array _ e),.agg ds=>.st (P.underlyingId t) (ds.map (bM P n e))
  |_,_=>.undef
def BD(P:ay):Nat->List Field->Bool
 |_,[]=>true
 |o,f::fs=>(f.offset==o)&&BD P (o+P.cellsOf f.type) fs
def mM(P:ay):Nat->av->Bool
 |0,_=>false
 |n+1,t=>match P.underlying t with
  |some .bool|some (.int _)|some .string=>true
  |some (.slice e)=>mM P n e&&decide (0<P.cellsOf e)
  |some (.struct fs)=>(dw P (P.underlyingId t)==some (fs.toList.map fun f=>P.cellsOf f.type))&&BD P 0 fs.toList&&(((fs.toList.map fun f=>P.cellsOf f.type).sum)==P.cellsOf t)&&fs.toList.all fun f=>mM P n f.type
  |some (.array m e)=>(dw P (P.underlyingId t)==some (cc m (P.cellsOf e)))&&(m*P.cellsOf e==P.cellsOf t)&&mM P n e
  |_=>false
variable{enc:av×ao->H}{P:ay}{w:aT}{base:Nat}{held:Bool}
theorem OJ{n k:Nat}{aa:Nat->Prop}(l:∀t cs d u,mM P n t=true->a4 enc P w base (fun _=>true) held k t cs=some (d,u)->aX P w aa (bM P n t d) cs):
 ∀(fs:List Field)(a:List (ax H×List am))(o:Nat)(cs:List ao),BD P o fs=true->a.length=fs.length->(∀f∈fs,mM P n f.type=true)->o+(fs.map fun f=>P.cellsOf f.type).sum<=cs.length->
  (∀(i:Nat)(f:Field),fs[i]?=some f->a4 enc P w base (fun _=>true) held k f.type ((cs.drop f.offset).take (P.cellsOf f.type))=a[i]?)->
  bn P w aa (fs.map fun f=>P.cellsOf f.type) ((fs.zip (a.map (·.1))).map fun p=>bM P n p.1.type p.2) (fs.map fun f=>(cs.drop f.offset).take (P.cellsOf f.type))/\
   (fs.map fun f=>(cs.drop f.offset).take (P.cellsOf f.type)).flatten=(cs.drop o).take (fs.map fun f=>P.cellsOf f.type).sum
 |[],a,o,cs,_,b,_,_,_=>by
  have:a=[]:=by simpa using b
  subst this;simp[bn]
 |f::fs,[],o,cs,_,b,_,_,_=>by simp at b
 |f::fs,x::a,o,cs,c,b,h,hlen,hx=>by
  simp only[BD,ak,beq_iff_eq]at c;obtain⟨c,s⟩:=c;simp only[b2,cy]at hlen;have j:=hx 0 f rfl;simp only[List.getElem?_cons_zero]at j;have m:=l _ _ x.1 x.2 (h f bv) j;have⟨q,r⟩:=OJ l fs a (o+P.cellsOf f.type) cs s (by simpa using b) (fun g e=>h g (bo _ e)) o_ (fun i g e=>by have:=hx (i+1) g (by simpa using e);simpa using this);refine⟨?_,?_⟩
  ·simp only[b2,cb,bn];exact⟨_,_,rfl,m,by simp[c];omega,q⟩
  ·simp only[b2,List.flatten_cons,cy,r,c];rw[<-List.drop_drop,cx]
theorem DG{al len:Nat}{aa:Nat->Prop}{f:Nat->PV}{g:Nat->List ao}:∀{l:List Nat},(∀i∈l,aX P w aa (f i) (g i)/\(g i).length=al)->bn P w aa (cc l.length al) (l.map f) (l.map g)
 |[],_=>by simp[bn]
 |a::l,h=>by
  simp only[List.length_cons,List.replicate_succ,b2,bn];exact⟨_,_,rfl,(h a bv).1,(h a bv).2,DG (len:=len) fun i hi=>h i (bo _ hi)⟩
theorem trod_array{m:Nat}{e t:av}{b:Nat}{cs:List ao}{x:ax H×List am}{d:Nat->Bool}(g:P.underlying t=some (.array m e))(h:a4 enc P w base d held b t cs=some x):
 ∃(a:List (ax H×List am))(n:Nat),b=n+1/\x=(.agg (a.map (·.1)),a.flatMap (·.2))/\cs.length=P.cellsOf t/\a.length=m/\
  ∀i,i<m->a4 enc P w base d held n e ((cs.drop (i*P.cellsOf e)).take (P.cellsOf e))=a[i]?:=by
 cases b with
 |zero=>simp[a4]at h
 |succ n=>
  unfold a4 at h;rw[g]at h
  split at h<;>simp_all
  obtain⟨j,a,c,f⟩:=h;exact⟨a,f.symm,by simpa using mapM_some_length c,fun i hi=>mapM_some_get c i i (by simp[hi])⟩
theorem Kx{α:Type}{cs:List α}{al:Nat}:∀m,((b0 m).map fun i=>(cs.drop (i*al)).take al).flatten=cs.take (m*al)
 |0=>by simp
 |m+1=>by
  rw[b3,b4,b1,Kx m,c6,cx];simp
theorem EF{V:Nat->List ao}{al:Nat}:∀(len:Nat),(∀i,i<len->(V i).length=al)->((b0 len).map V).flatten.length=len*al
 |0,_=>by simp
 |len+1,h=>by
  rw[b3,b4,b1,List.length_append,EF len fun i hi=>h i o_,c6];simp[h len o_]
theorem KW{V:Nat->List ao}{al b o:Nat}:∀(len:Nat),(∀i,i<len->(V i).length=al)->(∀i,i<len->∀j,j<al->w.cell? ⟨b,o+(i*al+j),none⟩=(V i)[j]?)->iB w b o ((b0 len).map V).flatten
 |0,_,_=>by intro i hi;simp at hi
 |len+1,h,hc=>by
  intro i hi;have a:=EF (V:=V) (al:=al) len fun i hi=>h i o_;have c:=KW (V:=V) (al:=al) (b:=b) (o:=o) len (fun i hi=>h i o_) (fun i hi=>hc i o_);have e:((b0 (len+1)).map V).flatten=((b0 len).map V).flatten++V len:=by
   rw[b3,b4,b1];simp
  have f:i<len*al+al:=by
   have:=EF (V:=V) (al:=al) (len+1) h;rw[c6]at this;omega
  rw[<-bw hi,e]
  by_cases d:i<len*al
  ·rw[List.getElem?_append_left o_,bw o_];exact c i o_
  ·rw[List.getElem?_append_right o_,a];have:=hc len o_ (i-len*al) o_;rw[<-this];congr 3;omega
theorem xO:∀(n:Nat)(I:Nat)(t:av)(cs:List ao)(d:ax H)(r:List am),mM P n t=true->a4 enc P w base (fun _=>true) held I t cs=some (d,r)->
 aX P w (fun k=>k<w.heap.size) (bM P n t d) cs
 |0,_,_,_,_,_,h,_=>by simp[mM]at h
 |n+1,I,t,cs,d,r,h,p=>by
  simp only[mM]at h
  split at h
  ·rename_i o;obtain⟨b,rfl,hx⟩:=DataW.trod_bool o p;cases hx;simp[bM,o,aX]
  ·rename_i k o;obtain⟨z,rfl,hx,hz⟩:=DataW.trod_int o p;cases hx;simp[bM,o,hz,aX]
  ·rename_i o;obtain⟨s,rfl,hx,_⟩:=DataW.trod_string o p;cases hx;simp[bM,o,aX]
  ·rename_i e o;simp only[ak,decide_eq_true_eq]at h;obtain⟨v,B⟩:=h;rcases open_slice o p with⟨rfl,hx⟩|⟨a,len,cap,m,k,D,R,rfl,ac,X,ae,N,hx,T⟩
   ·cases hx;simp[bM,o,aX]
   cases hx;simp only[if_true]at N;subst N;obtain⟨V,q⟩:=choose_lt T;have Q:a.spot=none\/m=0:=by
    by_cases hz:m=0
    ·exact .inr hz
    left;obtain⟨c1,_⟩:=q 0 o_;obtain⟨_,c2,c3⟩:=bb c1;have c4:=c3 0 B;rw[bw o_]at c4;simp only[Addr.add,Nat.zero_mul,if_true]at c4;unfold be at c4
    split at c4
    ·split at c4
     ·cases c4
     ·rename_i hs;simpa using hs
    ·cases c4
   have L:∀i,i<m->∀j,j<P.cellsOf e->w.cell? ⟨a.block,a.off+(i*P.cellsOf e+j),none⟩=(V i)[j]?:=by
    intro i hi j W;have hs:a.spot=none:=Q.resolve_right o_;obtain⟨_,_,c3⟩:=bb (q i hi).1;have:=c3 j W;rw[add_add]at this;rw[<-this];obtain⟨E,F,G⟩:=a;simp only at hs;subst hs;unfold Addr.add;split<;>simp_all
   have A:∀i,i<m->(V i).length=P.cellsOf e:=fun i hi=>(bb (q i hi).1).2.1;simp only[bM,o,aX];right;obtain⟨E,F,G⟩:=a;refine⟨E,F,m,P.cellsOf e,(b0 len).map V,?_,?_,?_,by simpa using X,G,Q,s_⟩
   ·have:=DG (P:=P) (w:=w) (len:=len) (al:=P.cellsOf e) (aa:=fun k=>k<w.heap.size) (f:=fun i=>bM P n e (D i)) (g:=V) (l:=b0 len) (fun i hi=>by
     have hi:i<m:=by have:=ck.1 hi;omega
     exact⟨xO n k e (V i) (D i) (R i) v (q i hi).2,A i hi⟩)
    simpa[Function.comp_def]using this
   ·intro Y;have ab:0<len:=by
     rcases Nat.eq_zero_or_pos len with h|h
     ·subst h;simp at Y
     ·exact h
    have c:=L 0 o_ 0 B;rw[bw (by rw[A 0 o_];exact B)]at c;unfold be at c
    split at c
    ·rename_i y;exact(aj.1 y).1
    ·cases c
   ·exact KW len (fun i hi=>A i o_) (fun i hi=>L i o_)
  ·rename_i fs o;simp only[ak,beq_iff_eq,List.all_eq_true]at h;obtain⟨⟨⟨u,J⟩,K⟩,S⟩:=h;obtain⟨xs,k,rfl,hx,hlen,C,hf⟩:=DataW.trod_struct o p;cases hx;have⟨g1,g2⟩:=OJ (aa:=fun k=>k<w.heap.size) (fun t cs d r Z y=>xO n k t cs d r Z y) fs.toList xs 0 cs J (by simpa using C) S o_ (fun i f hi=>hf i f (by simpa using hi));simp only[bM,o,aX];refine⟨_,_,u,g1,?_⟩;rw[g2,List.drop_zero,ca o_]
  ·rename_i m e o;simp only[ak,beq_iff_eq]at h;obtain⟨⟨u,J⟩,K⟩:=h;obtain⟨xs,k,rfl,hx,hlen,C,hf⟩:=trod_array o p;cases hx;have O:=DG (P:=P) (w:=w) (len:=m) (al:=P.cellsOf e) (aa:=fun k=>k<w.heap.size) (f:=fun i=>match xs[i]? with
     |some x=>bM P n e x.1
     |none=>.undef) (g:=fun i=>(cs.drop (i*P.cellsOf e)).take (P.cellsOf e)) (l:=b0 m) (fun i hi=>by
      have hi:i<m:=ck.1 hi;have M:=hf i hi;rw[bw o_]at M⊢;refine⟨xO n k e _ xs[i].1 xs[i].2 K M,?_⟩;have:(i+1)*P.cellsOf e<=m*P.cellsOf e:=Nat.mul_le_mul_right _ hi;rw[c6]at this;simp;omega)
   have v:((b0 m).map fun i=>match xs[i]? with
    |some x=>bM P n e x.1
    |none=>.undef)=(xs.map (·.1)).map (bM P n e):=by
    apply List.ext_getElem
    ·simp[C]
    ·intro i U ad;simp at U;simp[bw (show i<xs.length by omega)]
   rw[v,List.length_range]at O;simp only[bM,o,aX];refine⟨_,_,u,O,?_⟩;rw[Kx,ca o_]
  ·cases h
end
open Go.Proofs
def GI:Array ao:=(Lib.pow10Tab.map fun z=>Value.int .u64 z).toArray
def aEk:Nat->Option (Array ao)
 |3=>some GI
 |_=>none
instance Qx:Gl:=⟨fun _=>.undef,5,aEk,fun u=>bif da u 307 then some 308 else none,fun n=>bif da n 4 then true else da n 5⟩
@[simp] theorem ki3:kindOf prog 3=.leaf:=k_
@[simp] theorem GM:prog.underlying 3=some (.int .i64):=k_
@[simp] theorem tz3:cG prog 3=some (.int .i64 (0)):=k_
@[simp] theorem ki4:kindOf prog 4=.leaf:=k_
@[simp] theorem ib4:sT prog 4=true:=k_
@[simp] theorem tz4:cG prog 4=some (.bool false):=k_
@[simp] theorem tz5:cG prog 5=some (.int .u8 (0)):=k_
@[simp] theorem ki9:kindOf prog 9=.leaf:=k_
@[simp] theorem GO:prog.underlying 9=some .string:=k_
@[simp] theorem at9:je prog 9=true:=k_
@[simp] theorem tz9:cG prog 9=some (.str []):=k_
@[simp] theorem aMD:kindOf prog 22=.leaf:=k_
@[simp] theorem aHt:prog.underlying 22=some (.slice 157):=k_
@[simp] theorem aI6:je prog 22=true:=k_
@[simp] theorem aKA:dj prog 22=some 2:=k_
@[simp] theorem aLB:fw prog 22=157:=k_
@[simp] theorem aMF:kindOf prog 23=.leaf:=k_
@[simp] theorem aHu:prog.underlying 23=some (.slice 107):=k_
@[simp] theorem aKC:dj prog 23=some 4:=k_
@[simp] theorem aMG:kindOf prog 24=.leaf:=k_
@[simp] theorem aHv:prog.underlying 24=some (.slice 109):=k_
@[simp] theorem aKD:dj prog 24=some 3:=k_
@[simp] theorem aMI:kindOf prog 26=.agg 25:=k_
@[simp] theorem aOh:eC prog 26=some (25,4):=k_
@[simp] theorem aMK:kindOf prog 27=.leaf:=k_
@[simp] theorem aHw:prog.underlying 27=some (.slice 60):=k_
@[simp] theorem aLp:dj prog 27=some 3:=k_
@[simp] theorem aML:kindOf prog 29=.agg 28:=k_
@[simp] theorem aOi:eC prog 29=some (28,4):=k_
@[simp] theorem aMO:kindOf prog 30=.leaf:=k_
@[simp] theorem GN:prog.underlying 30=some .string:=k_
@[simp] theorem aOZ:cG prog 30=some (.str []):=k_
@[simp] theorem aMR:kindOf prog 32=.agg 31:=k_
@[simp] theorem aOk:eC prog 32=some (31,2):=k_
@[simp] theorem aO1:cG prog 32=some (.st 31 [.str [],.str []]):=k_
@[simp] theorem aMT:kindOf prog 37=.leaf:=k_
@[simp] theorem aJb:je prog 37=true:=k_
@[simp] theorem aLr:dj prog 37=some 4:=k_
@[simp] theorem aLF:fw prog 37=108:=k_
@[simp] theorem aMU:kindOf prog 38=.leaf:=k_
@[simp] theorem aJd:je prog 38=true:=k_
@[simp] theorem aLs:dj prog 38=some 3:=k_
@[simp] theorem aLG:fw prog 38=110:=k_
@[simp] theorem aMW:kindOf prog 40=.agg 39:=k_
@[simp] theorem aOl:eC prog 40=some (39,4):=k_
@[simp] theorem aO3:cG prog 40=some (.st 39 [.aK,.int .i64 (0),.aK,.aK]):=k_
@[simp] theorem aMX:kindOf prog 42=.leaf:=k_
@[simp] theorem aJe:je prog 42=true:=k_
@[simp] theorem aLt:dj prog 42=some 3:=k_
@[simp] theorem aLH:fw prog 42=101:=k_
@[simp] theorem aMY:kindOf prog 45=.agg 44:=k_
@[simp] theorem aOm:eC prog 45=some (44,3):=k_
@[simp] theorem aO4:cG prog 45=some (.st 44 [.str [],.str [],.str []]):=k_
@[simp] theorem aMZ:kindOf prog 46=.leaf:=k_
@[simp] theorem aO5:cG prog 46=some (.int .i64 (0)):=k_
@[simp] theorem aM0:kindOf prog 50=.agg 49:=k_
@[simp] theorem aOn:eC prog 50=some (49,2):=k_
@[simp] theorem aO7:cG prog 50=some (.st 49 [.st 44 [.str [],.str [],.str []],.st 44 [.str [],.str [],.str []]]):=k_
@[simp] theorem aM1:kindOf prog 60=.agg 59:=k_
@[simp] theorem aOo:eC prog 60=some (59,2):=k_
@[simp] theorem aO8:cG prog 60=some (.st 59 [.str [],.st 31 [.str [],.str []]]):=k_
@[simp] theorem aM2:kindOf prog 65=.agg 49:=k_
@[simp] theorem aOp:eC prog 65=some (49,2):=k_
@[simp] theorem aM4:kindOf prog 91=.leaf:=k_
@[simp] theorem aJf:je prog 91=true:=k_
@[simp] theorem aLu:dj prog 91=some 1:=k_
@[simp] theorem aLI:fw prog 91=3:=k_
@[simp] theorem aJg:je prog 96=true:=k_
@[simp] theorem aLv:dj prog 96=some 1:=k_
@[simp] theorem aLJ:fw prog 96=9:=k_
@[simp] theorem aMk:kindOf prog 101=.agg 59:=k_
@[simp] theorem aN1:eC prog 101=some (59,2):=k_
@[simp] theorem aOF:cG prog 101=some (.st 59 [.str [],.st 31 [.str [],.str []]]):=k_
@[simp] theorem aMl:kindOf prog 107=.agg 106:=k_
@[simp] theorem aN2:eC prog 107=some (106,4):=k_
@[simp] theorem aOG:cG prog 107=some (.st 106 [.str [],.int .i64 (0),.str [],.str []]):=k_
@[simp] theorem aMm:kindOf prog 108=.agg 106:=k_
@[simp] theorem aN3:eC prog 108=some (106,4):=k_
@[simp] theorem aOH:cG prog 108=some (.st 106 [.str [],.int .i64 (0),.str [],.str []]):=k_
@[simp] theorem aMn:kindOf prog 109=.agg 59:=k_
@[simp] theorem aN4:eC prog 109=some (59,2):=k_
@[simp] theorem aOI:cG prog 109=some (.st 59 [.str [],.st 31 [.str [],.str []]]):=k_
@[simp] theorem aMo:kindOf prog 110=.agg 59:=k_
@[simp] theorem aN5:eC prog 110=some (59,2):=k_
@[simp] theorem aOJ:cG prog 110=some (.st 59 [.str [],.st 31 [.str [],.str []]]):=k_
@[simp] theorem aMp:kindOf prog 111=.leaf:=k_
@[simp] theorem aMq:kindOf prog 112=.leaf:=k_
@[simp] theorem aJ5:dj prog 112=some 1:=k_
@[simp] theorem aLy:fw prog 112=269:=k_
@[simp] theorem aMr:kindOf prog 114=.agg 113:=k_
@[simp] theorem aN6:eC prog 114=some (113,2):=k_
@[simp] theorem aOK:cG prog 114=some (.st 113 [.int .i64 (0),.aK]):=k_
@[simp] theorem aMs:kindOf prog 116=.agg 115:=k_
@[simp] theorem aN7:eC prog 116=some (115,2):=k_
@[simp] theorem aOL:cG prog 116=some (.st 115 [.st 113 [.int .i64 (0),.aK],.st 113 [.int .i64 (0),.aK]]):=k_
@[simp] theorem aMt:kindOf prog 118=.agg 117:=k_
@[simp] theorem aN8:eC prog 118=some (117,4):=k_
@[simp] theorem aOM:cG prog 118=some (.st 117 [.st 39 [.aK,.int .i64 (0),.aK,.aK],.aK,.fM,.st 115 [.st 113 [.int .i64 (0),.aK],.st 113 [.int .i64 (0),.aK]]]):=k_
@[simp] theorem aMu:kindOf prog 120=.agg 119:=k_
@[simp] theorem aN9:eC prog 120=some (119,2):=k_
@[simp] theorem aON:cG prog 120=some (.st 119 [.st 115 [.st 113 [.int .i64 (0),.aK],.st 113 [.int .i64 (0),.aK]],.st 115 [.st 113 [.int .i64 (0),.aK],.st 113 [.int .i64 (0),.aK]]]):=k_
@[simp] theorem aMv:kindOf prog 122=.agg 121:=k_
@[simp] theorem aOa:eC prog 122=some (121,3):=k_
@[simp] theorem aOO:cG prog 122=some (.st 121 [.st 119 [.st 115 [.st 113 [.int .i64 (0),.aK],.st 113 [.int .i64 (0),.aK]],.st 115 [.st 113 [.int .i64 (0),.aK],.st 113 [.int .i64 (0),.aK]]],.st 119 [.st 115 [.st 113 [.int .i64 (0),.aK],.st 113 [.int .i64 (0),.aK]],.st 115 [.st 113 [.int .i64 (0),.aK],.st 113 [.int .i64 (0),.aK]]],.st 115 [.st 113 [.int .i64 (0),.aK],.st 113 [.int .i64 (0),.aK]]]):=k_
@[simp] theorem aMw:kindOf prog 126=.agg 125:=k_
@[simp] theorem aOb:eC prog 126=some (125,3):=k_
@[simp] theorem aOP:cG prog 126=some (.st 125 [.st 115 [.st 113 [.int .i64 (0),.aK],.st 113 [.int .i64 (0),.aK]],.st 115 [.st 113 [.int .i64 (0),.aK],.st 113 [.int .i64 (0),.aK]],.st 115 [.st 113 [.int .i64 (0),.aK],.st 113 [.int .i64 (0),.aK]]]):=k_
@[simp] theorem aMx:kindOf prog 133=.agg 132:=k_
@[simp] theorem aOc:eC prog 133=some (132,3):=k_
@[simp] theorem aOQ:cG prog 133=some (.st 132 [.st 119 [.st 115 [.st 113 [.int .i64 (0),.aK],.st 113 [.int .i64 (0),.aK]],.st 115 [.st 113 [.int .i64 (0),.aK],.st 113 [.int .i64 (0),.aK]]],.st 119 [.st 115 [.st 113 [.int .i64 (0),.aK],.st 113 [.int .i64 (0),.aK]],.st 115 [.st 113 [.int .i64 (0),.aK],.st 113 [.int .i64 (0),.aK]]],.st 115 [.st 113 [.int .i64 (0),.aK],.st 113 [.int .i64 (0),.aK]]]):=k_
@[simp] theorem aMy:kindOf prog 139=.leaf:=k_
@[simp] theorem aKy:dj prog 139=some 1:=k_
@[simp] theorem aLz:fw prog 139=30:=k_
@[simp] theorem aMz:kindOf prog 148=.agg 147:=k_
@[simp] theorem aOd:eC prog 148=some (147,2):=k_
@[simp] theorem aOR:cG prog 148=some (.st 147 [.bool false,.aK]):=k_
@[simp] theorem aMA:kindOf prog 157=.agg 156:=k_
@[simp] theorem aOe:eC prog 157=some (156,2):=k_
@[simp] theorem aOS:cG prog 157=some (.st 156 [.int .i64 (0),.int .i64 (0)]):=k_
@[simp] theorem aMB:kindOf prog 170=.agg 169:=k_
@[simp] theorem aOf:eC prog 170=some (169,3):=k_
@[simp] theorem aOT:cG prog 170=some (.st 169 [.int .i64 (0),.st 119 [.st 115 [.st 113 [.int .i64 (0),.aK],.st 113 [.int .i64 (0),.aK]],.st 115 [.st 113 [.int .i64 (0),.aK],.st 113 [.int .i64 (0),.aK]]],.st 119 [.st 115 [.st 113 [.int .i64 (0),.aK],.st 113 [.int .i64 (0),.aK]],.st 115 [.st 113 [.int .i64 (0),.aK],.st 113 [.int .i64 (0),.aK]]]]):=k_
@[simp] theorem aMC:kindOf prog 172=.agg 171:=k_
@[simp] theorem aOg:eC prog 172=some (171,3):=k_
@[simp] theorem aKz:dj prog 198=some 1:=k_
@[simp] theorem aLA:fw prog 198=46:=k_
@[simp] theorem aME:kindOf prog 224=.leaf:=k_
@[simp] theorem aI8:je prog 224=true:=k_
@[simp] theorem aKB:dj prog 224=some 33:=k_
@[simp] theorem aLC:fw prog 224=172:=k_
@[simp] theorem aOU:cG prog 224=some (.aK):=k_
@[simp] theorem aMH:kindOf prog 246=.agg 245:=k_
@[simp] theorem aI2:iJ prog 246=some (245,2):=k_
@[simp] theorem aOV:cG prog 246=some (.st 245 [.st 115 [.st 113 [.int .i64 (0),.aK],.st 113 [.int .i64 (0),.aK]],.st 115 [.st 113 [.int .i64 (0),.aK],.st 113 [.int .i64 (0),.aK]]]):=k_
@[simp] theorem aLo:dj prog 267=some 2:=k_
@[simp] theorem aLD:fw prog 267=32:=k_
@[simp] theorem aMJ:kindOf prog 269=.leaf:=k_
@[simp] theorem aOW:cG prog 269=some (.int .u64 (0)):=k_
@[simp] theorem aMM:kindOf prog 294=.agg 294:=k_
@[simp] theorem aI4:iJ prog 294=some (294,2):=k_
@[simp] theorem aOX:cG prog 294=some (.st 294 [.st 245 [.st 115 [.st 113 [.int .i64 (0),.aK],.st 113 [.int .i64 (0),.aK]],.st 115 [.st 113 [.int .i64 (0),.aK],.st 113 [.int .i64 (0),.aK]]],.st 245 [.st 115 [.st 113 [.int .i64 (0),.aK],.st 113 [.int .i64 (0),.aK]],.st 115 [.st 113 [.int .i64 (0),.aK],.st 113 [.int .i64 (0),.aK]]]]):=k_
@[simp] theorem aMP:kindOf prog 306=.leaf:=k_
@[simp] theorem aLq:dj prog 306=some 1:=k_
@[simp] theorem aLE:fw prog 306=5:=k_
@[simp] theorem aMQ:kindOf prog 308=.agg 307:=k_
@[simp] theorem aOj:eC prog 308=some (307,2):=k_
@[simp] theorem aO0:cG prog 308=some (.st 307 [.fU,.aK]):=k_
@[simp] theorem aMS:kindOf prog 366=.agg 365:=k_
@[simp] theorem aI5:iJ prog 366=some (365,256):=k_
@[simp] theorem aG4:dw prog 25=some [1,1,1,1]:=k_
@[simp] theorem aG5:dw prog 28=some [4,1,1,1]:=k_
@[simp] theorem aG6:dw prog 31=some [1,1]:=k_
@[simp] theorem aOC:dw prog 39=some [1,1,1,1]:=k_
@[simp] theorem aOD:dw prog 44=some [1,1,1]:=k_
@[simp] theorem aOE:dw prog 49=some [3,3]:=k_
@[simp] theorem Sw:dw prog 59=some [1,2]:=k_
@[simp] theorem aG1:dw prog 106=some [1,1,1,1]:=k_
@[simp] theorem aOq:dw prog 113=some [1,1]:=k_
@[simp] theorem aOr:dw prog 115=some [2,2]:=k_
@[simp] theorem aOs:dw prog 117=some [4,1,1,4]:=k_
@[simp] theorem aOt:dw prog 119=some [4,4]:=k_
@[simp] theorem aOu:dw prog 121=some [8,8,4]:=k_
@[simp] theorem aOv:dw prog 125=some [4,4,4]:=k_
@[simp] theorem aOw:dw prog 132=some [8,8,4]:=k_
@[simp] theorem aOx:dw prog 147=some [1,1]:=k_
@[simp] theorem aG3:dw prog 156=some [1,1]:=k_
@[simp] theorem aOy:dw prog 169=some [1,8,8]:=k_
@[simp] theorem aOz:dw prog 171=some [17,4,12]:=k_
@[simp] theorem aOA:dw prog 245=some [4,4]:=k_
@[simp] theorem aOB:dw prog 294=some [8,8]:=k_
section
variable{H:Type}{w:aT}{aa:Nat->Prop}
theorem Hy{P:ay}:∀{l:List Nat}{d:List PV}{b:List (List ao)},bn P w aa l d b->∀e∈d,∃c,aX P w aa e c
 |_,[],_,_=>fun e a=>by cases a
 |[],v::vs,_,h=>by simp[bn]at h
 |n::i,v::vs,b,h=>by
  simp only[bn]at h;obtain⟨c,cs,_,f,_,g⟩:=h;intro e a;rcases b5.1 a with rfl|a
  ·exact⟨c,f⟩
  ·exact Hy g e a
theorem zg{n:Nat}(d:ax H)(c)(h:aX prog w aa (bM prog (n+1) 3 d) c):∃z:Int,bM prog (n+1) 3 d=.int .i64 z:=by
 cases d with
 |lit l=>
  cases l with
  |int k z=>
   simp only[bM,GM]at h⊢
   split at h
   ·rename_i hz;rw[if_pos hz];exact⟨_,rfl⟩
   ·simp only[aX]at h
  |_=>simp only[bM,GM,aX]at h
 |_=>simp only[bM,GM,aX]at h
end
theorem AD{P:ay}{W:aT}{name:String}{d:ax Unit}:∀{l:List (String×ax Unit)}{b:List am},DataW.LaidVars P W l b->(name,d)∈l->
 ∃g t cs a p,P.globalNamed name=some g/\(P.globals[g]?).map (·.type)=some t/\W.var? P name=some cs/\a4 (fun _=>()) P W 0 (fun _=>true) false a t cs.toList=some (d,p)/\∀x∈a7 ⟨g,0,none⟩ cs.size,x∈b
 |[],_,_,h=>by cases h
 |(n,d0)::r,b,h,hm=>by
  obtain⟨g,t,cs,a,p,q,j,k,m,o,s,rfl⟩:=h;rcases b5.1 hm with e|hm
  ·cases e;exact⟨g,t,cs,a,p,j,k,m,o,fun x hx=>by simp[hx]⟩
  ·obtain⟨i,v,c,f,u,k1,k2,k3,k4,k5⟩:=AD s hm;exact⟨i,v,c,f,u,k1,k2,k3,k4,fun x hx=>by simp[k5 x hx]⟩
open Go.Proofs Go.Proofs.YtpojdjgcpgnaeaaGreatDoor
theorem LU:prog.globalNamed "internal/strconv.uint64pow10" =some 3:=k_
theorem We:((Rows.aimMeetsUptoRow.laid).filter fun x=>x.2.handleName?.isSome)=[]:=k_
theorem aDR:(prog.globals[3]?).map (·.type)=some 372:=k_
theorem aDS:prog.underlying 372=some (.array 20 269):=k_
theorem aDP:prog.underlying 269=some (.int .u64):=k_
theorem aDM:prog.cellsOf 269=1:=k_
theorem aDO:prog.cellsOf 372=20:=k_
theorem Qs:(match prog.underlying 310 with|some (.interface _)=>true|_=>false)=true:=k_
theorem Ir{W:aT}{t:av}{cs:List ao}{b:Nat}{n:String}{d:ax Unit}{p:List am}(a:(match prog.underlying t with|some (.interface _)=>true|_=>false)=true)
 (h:a4 (fun _=>()) prog W 0 (fun _=>true) false b t cs=some (.iface n d,p)):∃u v,cs=[.iface u v]:=by
 cases hu:prog.underlying t with
 |none=>rw[hu]at a;cases a
 |some D=>
  rw[hu]at a;cases D<;>(try (cases a;done))
  cases b with
  |zero=>simp[a4]at h
  |succ b=>
   rcases cs with _|⟨c,_|⟨c2,r⟩⟩
   ·simp[a4,hu]at h
   ·cases c<;>first|exact⟨_,_,rfl⟩|simp[a4,hu]at h
   ·cases c<;>simp[a4,hu]at h
theorem IE:prog.globalNamed "strconv.ErrSyntax" =some 4:=k_
theorem IF:prog.globalNamed "strconv.ErrRange" =some 5:=k_
theorem aG0:(prog.globals[4]?).map (·.type)=some 310:=k_
theorem aEX:(prog.globals[5]?).map (·.type)=some 310:=k_
theorem apS{W:aT}(h:laidMetH prog Rows.aimMeetsUptoRow.laid W):oG prog W (fun k=>k<W.heap.size):=by
 unfold laidMetH at h;rw[We]at h;obtain⟨o,i,_,hz⟩:=h;obtain⟨g,t,cs,fuel,p,k1,k2,k3,k4,k5⟩:=AD (name:= "internal/strconv.uint64pow10") (d:=Lib.tabData .u64 Lib.pow10Tab) i (by
  show _∈[_,_,_,_,_,_,_];exact bo _ (bo _ bv))
 rw[LU]at k1;cases k1;rw[aDR]at k2;cases k2;have b:=Lib.cells_of_tab aDS aDP aDM aDO k4;have j:cs=GI:=by rw[GI,<-b]
 have m:0<cs.size:=by rw[j];decide
 obtain⟨⟨c,T,a⟩,_⟩:=hz 3 0 (k5 _ (by simp[a7];exact m));refine⟨fun g=>by simp[aF,Gl.g],fun g n f=>?_,fun g f=>?_⟩
 ·match g,f with
  |3,f=>
   cases f;refine⟨(aj.1 a).1,T,?_⟩;simp only[bi,LU,db,a,dg]at k3;rw[a,k3,j]
 ·have l:g=4\/g=5:=by
   simp only[Gl.Cj,Qx,Bool.cond_eq_ite]at f
   split at f
   ·rename_i e;exact .inl (c9 e)
   ·exact .inr (c9 f)
  rcases l with rfl|rfl
  ·obtain⟨g,t,cs,fuel,p,k1,k2,k3,k4,k5⟩:=AD (name:= "strconv.ErrSyntax") (d:=Rows.laid_strconv_ErrSyntax) i (by
    show _∈[_,_,_,_,_,_,_]
    iterate 5 refine bo _ ?_
    exact bv)
   rw[IE]at k1;cases k1;rw[aG0]at k2;cases k2;obtain⟨u,v,hc⟩:=Ir Qs k4;have b:cs=#[.iface u v]:=by rw[<-hc]
   obtain⟨⟨c,T,a⟩,_⟩:=hz 4 0 (k5 _ (by simp[a7,b]));refine⟨(aj.1 a).1,u,v,T,?_⟩;simp only[bi,IE,db,a,dg]at k3;rw[a,k3,b]
  ·obtain⟨g,t,cs,fuel,p,k1,k2,k3,k4,k5⟩:=AD (name:= "strconv.ErrRange") (d:=Rows.laid_strconv_ErrRange) i (by
    show _∈[_,_,_,_,_,_,_]
    iterate 4 refine bo _ ?_
    exact bv)
   rw[IF]at k1;cases k1;rw[aEX]at k2;cases k2;obtain⟨u,v,hc⟩:=Ir Qs k4;have b:cs=#[.iface u v]:=by rw[<-hc]
   obtain⟨⟨c,T,a⟩,_⟩:=hz 5 0 (k5 _ (by simp[a7,b]));refine⟨(aj.1 a).1,u,v,T,?_⟩;simp only[bi,IF,db,a,dg]at k3;rw[a,k3,b]
section
variable[Gl]{P:ay}
theorem Zz{f:FuncId}{args:List PV}{v:PV}(d:Enters P f)(h:aq P f args v){w:aT}{aa:Nat->Prop}{a:List ao}(c:∀k,aa k->k<w.heap.size)(g:oG P w aa)(b:bO P w aa args a):
 Calls P f a.toArray w fun e w'=>∃cv,∃aG:Nat->Prop,e=.returned cv/\w.heap.size<=w'.heap.size/\(∀k,k<w.heap.size->w'.heap[k]?=w.heap[k]?)/\(w'.os=w.os/\w'.output=w.output)/\aF P w' aG v cv:=by
 rcases h with h|h
 ·refine(h.2 w aa a c g b).mono ?_;rintro e w' ⟨cv,aG,k1,_,_,_,k5,k6,i,k7⟩;exact⟨cv,aG,k1,k5,k6,i,k7⟩
 ·obtain⟨cv,k1,_⟩:=h w aa a b;rw[d a.toArray w]at k1;cases k1
theorem azv{w w':aT}(h:∀k,k<w.heap.size->w'.heap[k]?=w.heap[k]?)(a:w'.os=w.os/\w'.output=w.output)(b:am->Prop):w.keptBut w' b:=by
 refine⟨a.1,a.2,fun i hi=>?_⟩;rw[h i hi];cases w.heap[i]? with
 |none=>rfl
 |some o=>cases o<;>first|exact⟨rfl,rfl,rfl,fun _ _=>rfl⟩|exact .inr ⟨rfl,rfl⟩|rfl
theorem aFW{w w':aT}(h:∀k,k<w.heap.size->w'.heap[k]?=w.heap[k]?){p:am}(a:p.block<w.heap.size):w.sameAt w' p:=by
 cases p with
 |cell b o=>simp only[bl,be];rw[h b a]
 |map b=>simp only[bl];rw[h b a]
theorem Wz{H:Type}{e:av×ao->H}{f:Func}{s:a0}{apart fresh handsOn:Bool}{W c:aT}{args:Array ao}{v:ao}{d g:List (ax H)}{a pa pv:List am}
 (j:a6 e P f.params.toList s.vars apart W args.toList d g a)
 (o:∀(b:Nat)(sp:Nat->Bool)(m:Bool),a5 e P c b sp m f.resultTypes.toList (v.resultList f.resultTypes.size) (s.fn H (d++g)).results [])
 (l:∀sp:Nat->Bool,(∀p∈a,sp p.block=true)->a5 e P c 0 sp true f.params.toList args.toList (s.fn H (d++g)).args pa)
 (q:∀sp:Nat->Bool,(∀p∈a,sp p.block=true)->DataW.TrodVars e P c sp s.vars (s.fn H (d++g)).vars pv)
 (n:a=pa++pv)(hk:W.keptBut c (·∈a)):s.post e P f apart fresh handsOn false W args v c:=by
 have k:∀p∈a,(fun b=>decide (b<W.heap.size)) p.block=true:=fun p i=>by simpa using j.lt p i
 refine⟨d,g,a,[],pa,pv,j,o _ _ _,l _ k,q _ k,World.keptBut_mono (fun p i=>⟨i,?_⟩) hk,fun h=>by cases h⟩;rw[n,List.mem_append]at i;exact Or.inr i
end
section
variable{H:Type}{enc:av×ao->H}{P:ay}{w:aT}
theorem Yr{n:Nat}{t:av}{d:ax H}{cs:List ao}{aa:Nat->Prop}(h:aX P w aa (bM P n t d) cs):
 (((∃fs,P.underlying t=some (.struct fs))\/∃m e,P.underlying t=some (.array m e))/\∃u,aL (bM P n t d)=.agg u)\/((P.underlying t=some .bool\/(∃k,P.underlying t=some (.int k))\/P.underlying t=some .string\/∃e,P.underlying t=some (.slice e))/\aL (bM P n t d)=.leaf):=by
 cases n with
 |zero=>simp only[bM,aX]at h
 |succ n=>
  unfold bM at h⊢
  split at h
  ·rename_i a;exact .inr ⟨.inl a,rfl⟩
  ·rename_i k z a
   split at h
   ·rename_i hz;rw[if_pos hz];exact .inr ⟨.inr (.inl ⟨_,a⟩),rfl⟩
   ·simp only[aX]at h
  ·rename_i a;exact .inr ⟨.inr (.inr (.inl a)),rfl⟩
  ·rename_i a;exact .inr ⟨.inr (.inr (.inr ⟨_,a⟩)),rfl⟩
  ·rename_i a;exact .inr ⟨.inr (.inr (.inr ⟨_,a⟩)),rfl⟩
  ·rename_i a;exact .inl ⟨.inl ⟨_,a⟩,_,rfl⟩
  ·rename_i a;exact .inl ⟨.inr ⟨_,_,a⟩,_,rfl⟩
  ·simp only[aX]at h
theorem Yp[Gl]{n:Nat}{t:av}{v:ao}{d:ax H}{f:List am}{g i:Nat}{r:Reach}(j:mM P n t=true)(h:DataW.Trod enc P w g (fun _=>true) true t v d f)(b:a8 P w r i t v):
 aF P w (fun k=>k<w.heap.size) (bM P n t d) v:=by
 obtain⟨fuel,h⟩:=h;have hc:=xO n fuel t _ d f j h;rcases Yr hc with⟨a,u,hs⟩|⟨a,hs⟩
 ·have:∃cs,v=.agg cs:=by
   rcases a with⟨fs,a⟩|⟨m,e,a⟩
   ·simp only[a8,a]at b;obtain⟨cs,rfl,_,_⟩:=b;exact⟨cs,rfl⟩
   ·simp only[a8,a]at b;obtain⟨cs,rfl,_,_⟩:=b;exact⟨cs,rfl⟩
  obtain⟨cs,rfl⟩:=this;rw[xW hs]at hc;simpa[a9]using hc
 ·rw[u7 hs]at hc;obtain⟨c,hc,l⟩:=hc;have:v=c:=by
   cases v with
   |agg cs=>rcases a with a|⟨k,a⟩|a|⟨e,a⟩<;>simp[a8,a,Cell.okWide,Cell.ok]at b
   |_=>simpa[a9]using hc
  rw[this];exact l
def tg(P:ay)(n:Nat):List av->List (ax H)->List PV
 |t::ts,d::ds=>bM P n t d::tg P n ts ds
 |_,_=>[]
theorem D2[Gl]{n:Nat}{base:Nat}{r:Reach}:∀{ts:List av}{vs:List ao}{ds:List (ax H)}{h:List am},(∀t∈ts,mM P n t=true)->a5 enc P w 0 (fun _=>true) true ts vs ds h->
 (∀(j:Nat) t v,ts[j]?=some t->vs[j]?=some v->a8 P w r base t v)->bO P w (fun k=>k<w.heap.size) (tg P n ts ds) vs/\ds.length=ts.length
 |[],[],[],_,_,_,_=>by simp[tg,bO]
 |t::ts,v::vs,d::ds,_,b,⟨p,q,e,f,_⟩,c=>by
  have⟨i1,i2⟩:=D2 (ts:=ts) (vs:=vs) (ds:=ds) (fun t a=>b t (bo _ a)) f (fun j t v a g=>c (j+1) t v (by simpa using a) (by simpa using g));refine⟨?_,by simp[i2]⟩;simp only[tg,bO];exact⟨v,vs,rfl,Yp (b t bv) e (c 0 t v rfl rfl),i1⟩
theorem Mr{n:Nat}:∀{ts:List av}{vs:List ao}{ds:List (ax H)}{g:List am},(∀t∈ts,mM P n t=true)->a5 enc P w 0 (fun _=>true) true ts vs ds g->
 ∀p∈ts.zip ds,∃cs,aX P w (fun k=>k<w.heap.size) (bM P n p.1 p.2) cs
 |[],[],[],_,_,_=>by simp
 |t::ts,v::vs,d::ds,_,a,⟨p,q,⟨fuel,b⟩,c,_⟩=>by
  have f:=Mr (ts:=ts) (vs:=vs) (ds:=ds) (fun t e=>a t (bo _ e)) c;intro x hx;rw[cb]at hx;rcases b5.1 hx with rfl|hx
  ·exact⟨_,xO n fuel t _ d p (a t bv) b⟩
  ·exact f x hx
theorem Kf{w':aT}{f:Nat}{g:Nat->Bool}{held:Bool}:∀{c:List av}{vs:List ao}{a:List (ax H)}{b:List am},a5 enc P w f g held c vs a b->(∀p∈b,w.sameAt w' p)->
 a5 enc P w' f g held c vs a b
 |[],[],[],_,h,_=>h
 |t::c,v::vs,d::a,_,⟨p,q,⟨n,i⟩,j,e⟩,hs=>by
  subst e;exact⟨p,q,⟨n,DataW.trod_carry n _ _ _ i fun x hx=>hs x (List.mem_append_left _ hx)⟩,Kf j fun x hx=>hs x (List.mem_append_right _ hx),rfl⟩
theorem Vu[Gl]{f:FuncId}{fn:Func}{s:a0}{n:Nat}{T:av->Prop}(r:s.vars=[])(C:∀(H:Type)(a:List (ax H)),a.length=fn.params.size->(s.fn H a).results=[.lit (.bool true)]/\(s.fn H a).args=a/\(s.fn H a).vars=[])
 (K:Kids P T)(hz:∀t e,T t->P.underlying t=some (.slice e)->0<P.cellsOf e)(y:∀t∈fn.params.toList,T t)(o:∀t∈fn.params.toList,mM P n t=true){tb:av}(I:fn.resultTypes=#[tb])(A:P.underlying tb=some .bool)
 (B:Enters P f){W:aT}{args:Array ao}{a c:List (ax H)}{w:List am}{u:Nat}(D:oG P W (fun k=>k<W.heap.size))
 (E:(∀p∈fn.params.toList.zip a,∃cs,aX P W (fun k=>k<W.heap.size) (bM P n p.1 p.2) cs)->aq P f (tg P n fn.params.toList a) (.bool true))
 (M:∀(j:Nat) t v,fn.params[j]?=some t->args[j]?=some v->a8 P W .any u t v)
 (m:a6 enc P fn.params.toList s.vars false W args.toList a c w):
 Calls P f args W fun e l=>∃v,e=.returned v/\s.post enc P fn false true false false W args v l:=by
 have z:=m;obtain⟨p,q,d,h,rfl,O,Q⟩:=m;rw[r]at h;have⟨i,hlen⟩:=D2 o d (fun j t v J L=>M j t v (by simpa using J) (by simpa using L));have F:c=[]/\q=[]:=by
  cases c with
  |nil=>exact⟨rfl,h⟩
  |cons g c=>exact h.elim
 obtain⟨rfl,rfl⟩:=F;have hc:=Zz B (E (Mr o d)) (fun k hk=>hk) D i;refine hc.mono ?_;rintro e l ⟨cv,aG,rfl,k1,k2,k3,k4⟩;refine⟨cv,rfl,?_⟩;obtain⟨f1,f2,f3⟩:=C H (a++[]) (by simpa using hlen);have e1:cv=.bool true:=by simpa[aF]using k4
 have G:=DataW.TrodAll.lt d;refine Wz (pa:=p) (pv:=[]) z ?_ ?_ ?_ rfl (azv k2 k3 _)
 ·intro b sp N;rw[f1,I,e1];refine⟨[],[],⟨1,?_⟩,rfl,rfl⟩;simp[a4,A,a9]
 ·intro sp hs;rw[f2];simp only[List.append_nil]at hs⊢;exact Kf (DataW.TrodAll.respare K hz y d fun p i=>hs p i) fun x hx=>aFW k2 (G x hx)
 ·intro sp hs;rw[f3,r];rfl
end
end Go.az
