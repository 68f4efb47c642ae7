import Derived.Test.YtdjojlnnobkliaaGreatDoorSThC
import Derived.Deep.Slices
import Derived.Test.YtdjojlnnobkliaaGreatDoorProg
import Derived.KernelRfl
import Derived.Lib.ItoaNum
import Derived.Test.YtdjojlnnobkliaaGreatDoorRows
import Derived.Lib.LaidTab
import Derived.ReadAgain
import Derived.ChangeOld
import Derived.RowKit3
import Derived.ChangeSame
import Derived.WideShapes
/- Parts of a proof. -/
set_option maxRecDepth 100000
set_option linter.unusedSimpArgs false
set_option linter.unusedVariables false
set_option linter.unusedSectionVars false
open Go.Proofs.Tryz
open Array renaming getElem?_eq_some_iff->am
open Bool renaming and_eq_true->ao
open Go renaming MemPlace->ap, Value->av, TypeId->ax, DataW->ay, Program->aT, World->a2, ChangeSpec->a3
open Go.DataW renaming trod->a4, TrodAll->a5, Whole->a6
open Go.MemPlace renaming row->a7
open Go.Value renaming okWide->a8, cells->a9
open Go.World renaming cells?_some->bb, cell?->be, var?->bi, sameAt->bl
open List renaming mem_cons_of_mem->bo, mem_cons_self->bp, getElem?_eq_getElem->bv, range->bI, flatten_append->bV, map_cons->bW, range_succ->b2, map_append->b3, mem_cons->b4, take_of_length_le->b5, zip_cons_cons->cb, replicate->cc, mem_range->ce, take_add->ck, sum_cons->cv
open Nat renaming succ_mul->cx, eq_of_beq_eq_true->cy, beq->c6
open Option renaming bind_some->c9
open Option.some renaming injEq->da
namespace Go.aq
open Go.Deep
section
variable{H:Type}
def bF(P:aT):Nat->ax->ay H->PV
 |0,_,_=>.undef
 |n+1,t,d=>match P.underlying t,d with
  |some .bool,.lit (.bool b)=>.bool b
  |some (.int k),.lit (.int _ z)=>if(Lit.int k z).wf=true then .int k z else .undef
  |some .string,.lit (.string s)=>.str (s.map (·.toNat))
  |some (.slice e),.slice ds _=>.seq (ds.map (bF P n e))
  |some (.slice _),.nil=>.seq []
  |some (.struct fs),.agg ds=>.st (P.underlyingId t) ((fs.toList.zip ds).map fun p=>bF P n p.1.type p.2)
  |some (.array _ e),.agg ds=>.st (P.underlyingId t) (ds.map (bF P n e))
  |_,_=>.undef
def zS(P:aT):Nat->List Field->Bool
 |_,[]=>true
 |o,f::fs=>(f.offset==o)&&zS P (o+P.cellsOf f.type) fs
def lR(P:aT):Nat->ax->Bool
 |0,_=>false
 |n+1,t=>match P.underlying t with
  |some .bool|some (.int _)|some .string=>true
  |some (.slice e)=>lR P n e&&decide (0<P.cellsOf e)
  |some (.struct fs)=>(dA P (P.underlyingId t)==some (fs.toList.map fun f=>P.cellsOf f.type))&&zS P 0 fs.toList&&(((fs.toList.map fun f=>P.cellsOf f.type).sum)==P.cellsOf t)&&fs.toList.all fun f=>lR P n f.type
  |some (.array m e)=>(dA P (P.underlyingId t)==some (cc m (P.cellsOf e)))&&(m*P.cellsOf e==P.cellsOf t)&&lR P n e
  |_=>false
variable{enc:ax×av->H}{P:aT}{w:a2}{base:Nat}{held:Bool}
theorem N2{n k:Nat}{ad:Nat->Prop}(l:∀t cs d u,lR P n t=true->a4 enc P w base (fun _=>true) held k t cs=some (d,u)->aZ P w ad (bF P n t d) cs):
 ∀(fs:List Field)(a:List (ay H×List ap))(o:Nat)(cs:List av),zS P o fs=true->a.length=fs.length->(∀f∈fs,lR P n f.type=true)->o+(fs.map fun f=>P.cellsOf f.type).sum<=cs.length->
  (∀(i:Nat)(f:Field),fs[i]?=some f->a4 enc P w base (fun _=>true) held k f.type ((cs.drop f.offset).take (P.cellsOf f.type))=a[i]?)->
  bg P w ad (fs.map fun f=>P.cellsOf f.type) ((fs.zip (a.map (·.1))).map fun p=>bF P n p.1.type p.2) (fs.map fun f=>(cs.drop f.offset).take (P.cellsOf f.type))/\
   (fs.map fun f=>(cs.drop f.offset).take (P.cellsOf f.type)).flatten=(cs.drop o).take (fs.map fun f=>P.cellsOf f.type).sum
 |[],a,o,cs,_,b,_,_,_=>by
  have:a=[]:=by simpa using b
  subst this;simp[bg]
 |f::fs,[],o,cs,_,b,_,_,_=>by simp at b
 |f::fs,x::a,o,cs,c,b,h,hlen,hx=>by
  simp only[zS,ao,beq_iff_eq]at c;obtain⟨c,s⟩:=c;simp only[bW,cv]at hlen;have j:=hx 0 f rfl;simp only[List.getElem?_cons_zero]at j;have m:=l _ _ x.1 x.2 (h f bp) j;have⟨q,r⟩:=N2 l fs a (o+P.cellsOf f.type) cs s (by simpa using b) (fun g e=>h g (bo _ e)) o_ (fun i g e=>by have:=hx (i+1) g (by simpa using e);simpa using this);refine⟨?_,?_⟩
  ·simp only[bW,cb,bg];exact⟨_,_,rfl,m,by simp[c];omega,q⟩
  ·simp only[bW,List.flatten_cons,cv,r,c];rw[<-List.drop_drop,ck]
theorem B9{ai len:Nat}{ad:Nat->Prop}{f:Nat->PV}{g:Nat->List av}:∀{l:List Nat},(∀i∈l,aZ P w ad (f i) (g i)/\(g i).length=ai)->bg P w ad (cc l.length ai) (l.map f) (l.map g)
 |[],_=>by simp[bg]
 |a::l,h=>by
  simp only[List.length_cons,List.replicate_succ,bW,bg];exact⟨_,_,rfl,(h a bp).1,(h a bp).2,B9 (len:=len) fun i hi=>h i (bo _ hi)⟩
theorem trod_array{m:Nat}{e t:ax}{b:Nat}{cs:List av}{x:ay H×List ap}{d:Nat->Bool}(g:P.underlying t=some (.array m e))(h:a4 enc P w base d held b t cs=some x):
 ∃(a:List (ay H×List ap))(n:Nat),b=n+1/\x=(.agg (a.map (·.1)),a.flatMap (·.2))/\cs.length=P.cellsOf t/\a.length=m/\
  ∀i,i<m->a4 enc P w base d held n e ((cs.drop (i*P.cellsOf e)).take (P.cellsOf e))=a[i]?:=by
 cases b with
 |zero=>simp[a4]at h
 |succ n=>
  unfold a4 at h;rw[g]at h
  split at h<;>simp_all
  obtain⟨j,a,c,f⟩:=h;exact⟨a,f.symm,by simpa using mapM_some_length c,fun i hi=>mapM_some_get c i i (by simp[hi])⟩
theorem I5{α:Type}{cs:List α}{ai:Nat}:∀m,((bI m).map fun i=>(cs.drop (i*ai)).take ai).flatten=cs.take (m*ai)
 |0=>by simp
 |m+1=>by
  rw[b2,b3,bV,I5 m,cx,ck];simp
theorem C7{V:Nat->List av}{ai:Nat}:∀(len:Nat),(∀i,i<len->(V i).length=ai)->((bI len).map V).flatten.length=len*ai
 |0,_=>by simp
 |len+1,h=>by
  rw[b2,b3,bV,List.length_append,C7 len fun i hi=>h i o_,cx];simp[h len o_]
theorem JE{V:Nat->List av}{ai b o:Nat}:∀(len:Nat),(∀i,i<len->(V i).length=ai)->(∀i,i<len->∀j,j<ai->w.cell? ⟨b,o+(i*ai+j),none⟩=(V i)[j]?)->gZ w b o ((bI len).map V).flatten
 |0,_,_=>by intro i hi;simp at hi
 |len+1,h,hc=>by
  intro i hi;have a:=C7 (V:=V) (ai:=ai) len fun i hi=>h i o_;have c:=JE (V:=V) (ai:=ai) (b:=b) (o:=o) len (fun i hi=>h i o_) (fun i hi=>hc i o_);have e:((bI (len+1)).map V).flatten=((bI len).map V).flatten++V len:=by
   rw[b2,b3,bV];simp
  have f:i<len*ai+ai:=by
   have:=C7 (V:=V) (ai:=ai) (len+1) h;rw[cx]at this;omega
  rw[<-bv hi,e]
  by_cases d:i<len*ai
  ·rw[List.getElem?_append_left o_,bv o_];exact c i o_
  ·rw[List.getElem?_append_right o_,a];have:=hc len o_ (i-len*ai) o_;rw[<-this];congr 3;omega
theorem vL:∀(n:Nat)(J:Nat)(t:ax)(cs:List av)(d:ay H)(r:List ap),lR P n t=true->a4 enc P w base (fun _=>true) held J t cs=some (d,r)->
 aZ P w (fun k=>k<w.heap.size) (bF P n t d) cs
 |0,_,_,_,_,_,h,_=>by simp[lR]at h
 |n+1,J,t,cs,d,r,h,p=>by
  simp only[lR]at h
  split at h
  ·rename_i o;obtain⟨b,rfl,hx⟩:=DataW.trod_bool o p;cases hx;simp[bF,o,aZ]
  ·rename_i k o;obtain⟨z,rfl,hx,E⟩:=DataW.trod_int o p;cases hx;simp[bF,o,E,aZ]
  ·rename_i o;obtain⟨s,rfl,hx,_⟩:=DataW.trod_string o p;cases hx;simp[bF,o,aZ]
  ·rename_i e o;simp only[ao,decide_eq_true_eq]at h;obtain⟨v,B⟩:=h;rcases open_slice o p with⟨rfl,hx⟩|⟨a,len,cap,m,k,D,S,rfl,ac,Y,af,O,hx,U⟩
   ·cases hx;simp[bF,o,aZ]
   cases hx;simp only[if_true]at O;subst O;obtain⟨V,q⟩:=choose_lt U;have R:a.spot=none\/m=0:=by
    by_cases E:m=0
    ·exact .inr E
    left;obtain⟨c1,_⟩:=q 0 o_;obtain⟨_,c2,c3⟩:=bb c1;have c4:=c3 0 B;rw[bv o_]at c4;simp only[Addr.add,Nat.zero_mul,if_true]at c4;unfold be at c4
    split at c4
    ·split at c4
     ·cases c4
     ·rename_i hs;simpa using hs
    ·cases c4
   have M:∀i,i<m->∀j,j<P.cellsOf e->w.cell? ⟨a.block,a.off+(i*P.cellsOf e+j),none⟩=(V i)[j]?:=by
    intro i hi j X;have hs:a.spot=none:=R.resolve_right o_;obtain⟨_,_,c3⟩:=bb (q i hi).1;have:=c3 j X;rw[add_add]at this;rw[<-this];obtain⟨F,G,I⟩:=a;simp only at hs;subst hs;unfold Addr.add;split<;>simp_all
   have A:∀i,i<m->(V i).length=P.cellsOf e:=fun i hi=>(bb (q i hi).1).2.1;simp only[bF,o,aZ];right;obtain⟨F,G,I⟩:=a;refine⟨F,G,m,P.cellsOf e,(bI len).map V,?_,?_,?_,by simpa using Y,I,R,s_⟩
   ·have:=B9 (P:=P) (w:=w) (len:=len) (ai:=P.cellsOf e) (ad:=fun k=>k<w.heap.size) (f:=fun i=>bF P n e (D i)) (g:=V) (l:=bI len) (fun i hi=>by
     have hi:i<m:=by have:=ce.1 hi;omega
     exact⟨vL n k e (V i) (D i) (S i) v (q i hi).2,A i hi⟩)
    simpa[Function.comp_def]using this
   ·intro Z;have ab:0<len:=by
     rcases Nat.eq_zero_or_pos len with h|h
     ·subst h;simp at Z
     ·exact h
    have c:=M 0 o_ 0 B;rw[bv (by rw[A 0 o_];exact B)]at c;unfold be at c
    split at c
    ·rename_i y;exact(am.1 y).1
    ·cases c
   ·exact JE len (fun i hi=>A i o_) (fun i hi=>M i o_)
  ·rename_i fs o;simp only[ao,beq_iff_eq,List.all_eq_true]at h;obtain⟨⟨⟨u,K⟩,L⟩,T⟩:=h;obtain⟨xs,k,rfl,hx,hlen,C,hf⟩:=DataW.trod_struct o p;cases hx;have⟨g1,g2⟩:=N2 (ad:=fun k=>k<w.heap.size) (fun t cs d r aa y=>vL n k t cs d r aa y) fs.toList xs 0 cs K (by simpa using C) T o_ (fun i f hi=>hf i f (by simpa using hi));simp only[bF,o,aZ];refine⟨_,_,u,g1,?_⟩;rw[g2,List.drop_zero,b5 o_]
  ·rename_i m e o;simp only[ao,beq_iff_eq]at h;obtain⟨⟨u,K⟩,L⟩:=h;obtain⟨xs,k,rfl,hx,hlen,C,hf⟩:=trod_array o p;cases hx;have Q:=B9 (P:=P) (w:=w) (len:=m) (ai:=P.cellsOf e) (ad:=fun k=>k<w.heap.size) (f:=fun i=>match xs[i]? with
     |some x=>bF P n e x.1
     |none=>.undef) (g:=fun i=>(cs.drop (i*P.cellsOf e)).take (P.cellsOf e)) (l:=bI m) (fun i hi=>by
      have hi:i<m:=ce.1 hi;have N:=hf i hi;rw[bv o_]at N⊢;refine⟨vL n k e _ xs[i].1 xs[i].2 L N,?_⟩;have:(i+1)*P.cellsOf e<=m*P.cellsOf e:=Nat.mul_le_mul_right _ hi;rw[cx]at this;simp;omega)
   have v:((bI m).map fun i=>match xs[i]? with
    |some x=>bF P n e x.1
    |none=>.undef)=(xs.map (·.1)).map (bF P n e):=by
    apply List.ext_getElem
    ·simp[C]
    ·intro i W ae;simp at W;simp[bv (show i<xs.length by omega)]
   rw[v,List.length_range]at Q;simp only[bF,o,aZ];refine⟨_,_,u,Q,?_⟩;rw[I5,b5 o_]
  ·cases h
end
open Go.Proofs
def E8:Array av:=(Lib.pow10Tab.map fun z=>Value.int .u64 z).toArray
def aHB:Nat->Option (Array av)
 |5=>some E8
 |_=>none
instance Qx:Gl:=⟨fun _=>.undef,5,aHB,fun u=>bif c6 u 358 then some 359 else none,fun n=>bif c6 n 3 then true else c6 n 4⟩
@[simp] theorem ki3:kindOf prog 3=.leaf:=k_
@[simp] theorem Fb:prog.underlying 3=some (.int .i64):=k_
@[simp] theorem tz3:cB prog 3=some (.int .i64 (0)):=k_
@[simp] theorem ki4:kindOf prog 4=.leaf:=k_
@[simp] theorem ib4:rB prog 4=true:=k_
@[simp] theorem tz4:cB prog 4=some (.bool false):=k_
@[simp] theorem Fe:prog.underlying 5=some (.int .u8):=k_
@[simp] theorem tz5:cB prog 5=some (.int .u8 (0)):=k_
@[simp] theorem ki9:kindOf prog 9=.leaf:=k_
@[simp] theorem Ff:prog.underlying 9=some .string:=k_
@[simp] theorem at9:iV prog 9=true:=k_
@[simp] theorem tz9:cB prog 9=some (.str []):=k_
@[simp] theorem aN1:kindOf prog 22=.leaf:=k_
@[simp] theorem aJp:prog.underlying 22=some (.slice 202):=k_
@[simp] theorem aMp:iV prog 22=true:=k_
@[simp] theorem aMO:cJ prog 22=some 2:=k_
@[simp] theorem aM3:ek prog 22=202:=k_
@[simp] theorem aN2:kindOf prog 23=.leaf:=k_
@[simp] theorem aJq:prog.underlying 23=some (.slice 83):=k_
@[simp] theorem aMQ:cJ prog 23=some 4:=k_
@[simp] theorem aN3:kindOf prog 24=.leaf:=k_
@[simp] theorem aJr:prog.underlying 24=some (.slice 146):=k_
@[simp] theorem aMR:cJ prog 24=some 3:=k_
@[simp] theorem aN5:kindOf prog 26=.agg 25:=k_
@[simp] theorem aPF:fj prog 26=some (25,4):=k_
@[simp] theorem aN7:kindOf prog 27=.leaf:=k_
@[simp] theorem aJs:prog.underlying 27=some (.slice 77):=k_
@[simp] theorem aMT:cJ prog 27=some 3:=k_
@[simp] theorem aN9:kindOf prog 29=.agg 28:=k_
@[simp] theorem aPG:fj prog 29=some (28,4):=k_
@[simp] theorem aOb:kindOf prog 30=.leaf:=k_
@[simp] theorem Fc:prog.underlying 30=some .string:=k_
@[simp] theorem aQe:cB prog 30=some (.str []):=k_
@[simp] theorem aOc:kindOf prog 32=.agg 31:=k_
@[simp] theorem aPH:fj prog 32=some (31,2):=k_
@[simp] theorem aQf:cB prog 32=some (.st 31 [.str [],.str []]):=k_
@[simp] theorem aOh:kindOf prog 36=.leaf:=k_
@[simp] theorem aMq:iV prog 36=true:=k_
@[simp] theorem aMW:cJ prog 36=some 1:=k_
@[simp] theorem aM8:ek prog 36=3:=k_
@[simp] theorem aOi:kindOf prog 37=.leaf:=k_
@[simp] theorem aQj:cB prog 37=some (.int .i64 (0)):=k_
@[simp] theorem aOk:kindOf prog 40=.leaf:=k_
@[simp] theorem aMr:iV prog 40=true:=k_
@[simp] theorem aMX:cJ prog 40=some 4:=k_
@[simp] theorem aM9:ek prog 40=131:=k_
@[simp] theorem aOm:kindOf prog 41=.leaf:=k_
@[simp] theorem aMs:iV prog 41=true:=k_
@[simp] theorem aMY:cJ prog 41=some 3:=k_
@[simp] theorem aNa:ek prog 41=147:=k_
@[simp] theorem aOn:kindOf prog 43=.agg 42:=k_
@[simp] theorem aPJ:fj prog 43=some (42,4):=k_
@[simp] theorem aQl:cB prog 43=some (.st 42 [.aO,.int .i64 (0),.aO,.aO]):=k_
@[simp] theorem aOo:kindOf prog 44=.leaf:=k_
@[simp] theorem aMt:iV prog 44=true:=k_
@[simp] theorem aMZ:cJ prog 44=some 3:=k_
@[simp] theorem aNb:ek prog 44=91:=k_
@[simp] theorem aOp:kindOf prog 46=.agg 45:=k_
@[simp] theorem aPK:fj prog 46=some (45,4):=k_
@[simp] theorem aQm:cB prog 46=some (.st 45 [.st 42 [.aO,.int .i64 (0),.aO,.aO],.aO,.str [],.str []]):=k_
@[simp] theorem aOq:kindOf prog 77=.agg 76:=k_
@[simp] theorem aPL:fj prog 77=some (76,2):=k_
@[simp] theorem aQo:cB prog 77=some (.st 76 [.str [],.st 31 [.str [],.str []]]):=k_
@[simp] theorem aOr:kindOf prog 83=.agg 82:=k_
@[simp] theorem aPM:fj prog 83=some (82,4):=k_
@[simp] theorem aQp:cB prog 83=some (.st 82 [.str [],.int .i64 (0),.str [],.str []]):=k_
@[simp] theorem aMu:iV prog 87=true:=k_
@[simp] theorem aM0:cJ prog 87=some 1:=k_
@[simp] theorem aNc:ek prog 87=9:=k_
@[simp] theorem aOt:kindOf prog 91=.agg 76:=k_
@[simp] theorem aPN:fj prog 91=some (76,2):=k_
@[simp] theorem aQr:cB prog 91=some (.st 76 [.str [],.st 31 [.str [],.str []]]):=k_
@[simp] theorem aOu:kindOf prog 92=.agg 92:=k_
@[simp] theorem aMo:gP prog 92=some (92,2):=k_
@[simp] theorem aQs:cB prog 92=some (.st 92 [.st 31 [.str [],.str []],.st 31 [.str [],.str []]]):=k_
@[simp] theorem aNO:kindOf prog 119=.leaf:=k_
@[simp] theorem aNP:kindOf prog 120=.leaf:=k_
@[simp] theorem aMM:cJ prog 120=some 1:=k_
@[simp] theorem aM1:ek prog 120=329:=k_
@[simp] theorem aNQ:kindOf prog 122=.agg 121:=k_
@[simp] theorem aPu:fj prog 122=some (121,2):=k_
@[simp] theorem aP1:cB prog 122=some (.st 121 [.int .i64 (0),.aO]):=k_
@[simp] theorem aNR:kindOf prog 124=.agg 123:=k_
@[simp] theorem aPv:fj prog 124=some (123,2):=k_
@[simp] theorem aP2:cB prog 124=some (.st 123 [.st 121 [.int .i64 (0),.aO],.st 121 [.int .i64 (0),.aO]]):=k_
@[simp] theorem aNS:kindOf prog 126=.agg 125:=k_
@[simp] theorem aPw:fj prog 126=some (125,4):=k_
@[simp] theorem aP3:cB prog 126=some (.st 125 [.st 42 [.aO,.int .i64 (0),.aO,.aO],.aO,.ft,.st 123 [.st 121 [.int .i64 (0),.aO],.st 121 [.int .i64 (0),.aO]]]):=k_
@[simp] theorem aNT:kindOf prog 128=.agg 127:=k_
@[simp] theorem aPx:fj prog 128=some (127,2):=k_
@[simp] theorem aNU:kindOf prog 131=.agg 82:=k_
@[simp] theorem aPy:fj prog 131=some (82,4):=k_
@[simp] theorem aP4:cB prog 131=some (.st 82 [.str [],.int .i64 (0),.str [],.str []]):=k_
@[simp] theorem aNV:kindOf prog 142=.agg 141:=k_
@[simp] theorem aPz:fj prog 142=some (141,2):=k_
@[simp] theorem aP5:cB prog 142=some (.st 141 [.st 123 [.st 121 [.int .i64 (0),.aO],.st 121 [.int .i64 (0),.aO]],.st 123 [.st 121 [.int .i64 (0),.aO],.st 121 [.int .i64 (0),.aO]]]):=k_
@[simp] theorem aNW:kindOf prog 146=.agg 76:=k_
@[simp] theorem aPA:fj prog 146=some (76,2):=k_
@[simp] theorem aP6:cB prog 146=some (.st 76 [.str [],.st 31 [.str [],.str []]]):=k_
@[simp] theorem aNX:kindOf prog 147=.agg 76:=k_
@[simp] theorem aPB:fj prog 147=some (76,2):=k_
@[simp] theorem aP7:cB prog 147=some (.st 76 [.str [],.st 31 [.str [],.str []]]):=k_
@[simp] theorem aNY:kindOf prog 158=.agg 157:=k_
@[simp] theorem aPC:fj prog 158=some (157,3):=k_
@[simp] theorem aP8:cB prog 158=some (.st 157 [.int .i64 (0),.st 141 [.st 123 [.st 121 [.int .i64 (0),.aO],.st 121 [.int .i64 (0),.aO]],.st 123 [.st 121 [.int .i64 (0),.aO],.st 121 [.int .i64 (0),.aO]]],.st 141 [.st 123 [.st 121 [.int .i64 (0),.aO],.st 121 [.int .i64 (0),.aO]],.st 123 [.st 121 [.int .i64 (0),.aO],.st 121 [.int .i64 (0),.aO]]]]):=k_
@[simp] theorem aNZ:kindOf prog 200=.leaf:=k_
@[simp] theorem aMN:cJ prog 200=some 1:=k_
@[simp] theorem aM2:ek prog 200=30:=k_
@[simp] theorem aN0:kindOf prog 202=.agg 201:=k_
@[simp] theorem aPD:fj prog 202=some (201,2):=k_
@[simp] theorem aP9:cB prog 202=some (.st 201 [.int .i64 (0),.int .i64 (0)]):=k_
@[simp] theorem aMP:cJ prog 222=some 1:=k_
@[simp] theorem aM4:ek prog 222=37:=k_
@[simp] theorem aN4:kindOf prog 258=.agg 257:=k_
@[simp] theorem aPE:fj prog 258=some (257,2):=k_
@[simp] theorem aQa:cB prog 258=some (.st 257 [.bool false,.aO]):=k_
@[simp] theorem aN6:kindOf prog 264=.leaf:=k_
@[simp] theorem aQb:cB prog 264=some (.gU):=k_
@[simp] theorem aMS:cJ prog 265=some 1:=k_
@[simp] theorem aM5:ek prog 265=264:=k_
@[simp] theorem aN8:kindOf prog 273=.agg 272:=k_
@[simp] theorem aMl:gP prog 273=some (272,2):=k_
@[simp] theorem aQc:cB prog 273=some (.st 272 [.st 123 [.st 121 [.int .i64 (0),.aO],.st 121 [.int .i64 (0),.aO]],.st 123 [.st 121 [.int .i64 (0),.aO],.st 121 [.int .i64 (0),.aO]]]):=k_
@[simp] theorem aOd:kindOf prog 321=.agg 321:=k_
@[simp] theorem aMm:gP prog 321=some (321,2):=k_
@[simp] theorem aQg:cB prog 321=some (.st 321 [.st 272 [.st 123 [.st 121 [.int .i64 (0),.aO],.st 121 [.int .i64 (0),.aO]],.st 123 [.st 121 [.int .i64 (0),.aO],.st 121 [.int .i64 (0),.aO]]],.st 272 [.st 123 [.st 121 [.int .i64 (0),.aO],.st 121 [.int .i64 (0),.aO]],.st 123 [.st 121 [.int .i64 (0),.aO],.st 121 [.int .i64 (0),.aO]]]]):=k_
@[simp] theorem aMU:cJ prog 325=some 2:=k_
@[simp] theorem aM6:ek prog 325=32:=k_
@[simp] theorem aOe:kindOf prog 329=.leaf:=k_
@[simp] theorem aQh:cB prog 329=some (.int .u64 (0)):=k_
@[simp] theorem aOf:kindOf prog 357=.leaf:=k_
@[simp] theorem aMV:cJ prog 357=some 1:=k_
@[simp] theorem aM7:ek prog 357=5:=k_
@[simp] theorem aOg:kindOf prog 359=.agg 358:=k_
@[simp] theorem aPI:fj prog 359=some (358,2):=k_
@[simp] theorem aQi:cB prog 359=some (.st 358 [.dL,.aO]):=k_
@[simp] theorem aOl:kindOf prog 409=.agg 408:=k_
@[simp] theorem aMn:gP prog 409=some (408,256):=k_
@[simp] theorem aIw:dA prog 25=some [1,1,1,1]:=k_
@[simp] theorem aIx:dA prog 28=some [4,1,1,1]:=k_
@[simp] theorem aIy:dA prog 31=some [1,1]:=k_
@[simp] theorem aPX:dA prog 42=some [1,1,1,1]:=k_
@[simp] theorem aPY:dA prog 45=some [4,1,1,1]:=k_
@[simp] theorem RN:dA prog 76=some [1,2]:=k_
@[simp] theorem aIz:dA prog 82=some [1,1,1,1]:=k_
@[simp] theorem aPZ:dA prog 92=some [2,2]:=k_
@[simp] theorem aPO:dA prog 121=some [1,1]:=k_
@[simp] theorem aPP:dA prog 123=some [2,2]:=k_
@[simp] theorem aPQ:dA prog 125=some [4,1,1,4]:=k_
@[simp] theorem aPR:dA prog 127=some [10,7]:=k_
@[simp] theorem aPS:dA prog 141=some [4,4]:=k_
@[simp] theorem aPT:dA prog 157=some [1,8,8]:=k_
@[simp] theorem aIv:dA prog 201=some [1,1]:=k_
@[simp] theorem aPU:dA prog 257=some [1,1]:=k_
@[simp] theorem aPV:dA prog 272=some [4,4]:=k_
@[simp] theorem aPW:dA prog 321=some [8,8]:=k_
section
variable{H:Type}{w:a2}{ad:Nat->Prop}
theorem FK{P:aT}:∀{l:List Nat}{d:List PV}{b:List (List av)},bg P w ad l d b->∀e∈d,∃c,aZ P w ad e c
 |_,[],_,_=>fun e a=>by cases a
 |[],v::vs,_,h=>by simp[bg]at h
 |n::i,v::vs,b,h=>by
  simp only[bg]at h;obtain⟨c,cs,_,f,_,g⟩:=h;intro e a;rcases b4.1 a with rfl|a
  ·exact⟨c,f⟩
  ·exact FK g e a
theorem xD{n:Nat}(d:ay H)(c)(h:aZ prog w ad (bF prog (n+1) 3 d) c):∃z:Int,bF prog (n+1) 3 d=.int .i64 z:=by
 cases d with
 |lit l=>
  cases l with
  |int k z=>
   simp only[bF,Fb]at h⊢
   split at h
   ·rename_i a;rw[if_pos a];exact⟨_,rfl⟩
   ·simp only[aZ]at h
  |_=>simp only[bF,Fb,aZ]at h
 |_=>simp only[bF,Fb,aZ]at h
end
theorem yQ{P:aT}{W:a2}{name:String}{d:ay Unit}:∀{l:List (String×ay Unit)}{b:List ap},DataW.LaidVars P W l b->(name,d)∈l->
 ∃g t cs a p,P.globalNamed name=some g/\(P.globals[g]?).map (·.type)=some t/\W.var? P name=some cs/\a4 (fun _=>()) P W 0 (fun _=>true) false a t cs.toList=some (d,p)/\∀x∈a7 ⟨g,0,none⟩ cs.size,x∈b
 |[],_,_,h=>by cases h
 |(n,d0)::r,b,h,hm=>by
  obtain⟨g,t,cs,a,p,q,j,k,m,o,s,rfl⟩:=h;rcases b4.1 hm with e|hm
  ·cases e;exact⟨g,t,cs,a,p,j,k,m,o,fun x hx=>by simp[hx]⟩
  ·obtain⟨i,v,c,f,u,k1,k2,k3,k4,k5⟩:=yQ s hm;exact⟨i,v,c,f,u,k1,k2,k3,k4,fun x hx=>by simp[k5 x hx]⟩
open Go.Proofs Go.Proofs.YtdjojlnnobkliaaGreatDoor
theorem KF:prog.globalNamed "internal/strconv.uint64pow10" =some 5:=k_
theorem Vn:((Rows.aimPlansUptoRow.laid).filter fun x=>x.2.handleName?.isSome)=[]:=k_
theorem aHu:(prog.globals[5]?).map (·.type)=some 422:=k_
theorem aHv:prog.underlying 422=some (.array 20 329):=k_
theorem aHs:prog.underlying 329=some (.int .u64):=k_
theorem aHq:prog.cellsOf 329=1:=k_
theorem aHr:prog.cellsOf 422=20:=k_
theorem Qt:(match prog.underlying 346 with|some (.interface _)=>true|_=>false)=true:=k_
theorem GM{W:a2}{t:ax}{cs:List av}{b:Nat}{n:String}{d:ay Unit}{p:List ap}(a:(match prog.underlying t with|some (.interface _)=>true|_=>false)=true)
 (h:a4 (fun _=>()) prog W 0 (fun _=>true) false b t cs=some (.iface n d,p)):∃u v,cs=[.iface u v]:=by
 cases hu:prog.underlying t with
 |none=>rw[hu]at a;cases a
 |some D=>
  rw[hu]at a;cases D<;>(try (cases a;done))
  cases b with
  |zero=>simp[a4]at h
  |succ b=>
   rcases cs with _|⟨c,_|⟨c2,r⟩⟩
   ·simp[a4,hu]at h
   ·cases c<;>first|exact⟨_,_,rfl⟩|simp[a4,hu]at h
   ·cases c<;>simp[a4,hu]at h
theorem GR:prog.globalNamed "strconv.ErrSyntax" =some 3:=k_
theorem GS:prog.globalNamed "strconv.ErrRange" =some 4:=k_
theorem aIt:(prog.globals[3]?).map (·.type)=some 346:=k_
theorem aHM:(prog.globals[4]?).map (·.type)=some 346:=k_
theorem ayG{W:a2}(h:laidMetH prog Rows.aimPlansUptoRow.laid W):mZ prog W (fun k=>k<W.heap.size):=by
 unfold laidMetH at h;rw[Vn]at h;obtain⟨q,i,_,j⟩:=h;obtain⟨g,t,cs,fuel,p,k1,k2,k3,k4,k5⟩:=yQ (name:= "internal/strconv.uint64pow10") (d:=Lib.tabData .u64 Lib.pow10Tab) i (by
  show _∈[_,_,_,_,_,_,_];exact bo _ (bo _ bp))
 rw[KF]at k1;cases k1;rw[aHu]at k2;cases k2;have b:=Lib.cells_of_tab aHv aHs aHq aHr k4;have l:cs=E8:=by rw[E8,<-b]
 have n:0<cs.size:=by rw[l];decide
 obtain⟨⟨c,T,a⟩,_⟩:=j 5 0 (k5 _ (by simp[a7];exact n));refine⟨fun g=>by simp[aF,Gl.g],fun g o f=>?_,fun g f=>?_⟩
 ·match g,f with
  |5,f=>
   cases f;refine⟨(am.1 a).1,T,?_⟩;simp only[bi,KF,c9,a,da]at k3;rw[a,k3,l]
 ·have m:g=3\/g=4:=by
   simp only[Gl.AN,Qx,Bool.cond_eq_ite]at f
   split at f
   ·rename_i e;exact .inl (cy e)
   ·exact .inr (cy f)
  rcases m with rfl|rfl
  ·obtain⟨g,t,cs,fuel,p,k1,k2,k3,k4,k5⟩:=yQ (name:= "strconv.ErrSyntax") (d:=Rows.laid_strconv_ErrSyntax) i (by
    show _∈[_,_,_,_,_,_,_]
    iterate 5 refine bo _ ?_
    exact bp)
   rw[GR]at k1;cases k1;rw[aIt]at k2;cases k2;obtain⟨u,v,hc⟩:=GM Qt k4;have b:cs=#[.iface u v]:=by rw[<-hc]
   obtain⟨⟨c,T,a⟩,_⟩:=j 3 0 (k5 _ (by simp[a7,b]));refine⟨(am.1 a).1,u,v,T,?_⟩;simp only[bi,GR,c9,a,da]at k3;rw[a,k3,b]
  ·obtain⟨g,t,cs,fuel,p,k1,k2,k3,k4,k5⟩:=yQ (name:= "strconv.ErrRange") (d:=Rows.laid_strconv_ErrRange) i (by
    show _∈[_,_,_,_,_,_,_]
    iterate 4 refine bo _ ?_
    exact bp)
   rw[GS]at k1;cases k1;rw[aHM]at k2;cases k2;obtain⟨u,v,hc⟩:=GM Qt k4;have b:cs=#[.iface u v]:=by rw[<-hc]
   obtain⟨⟨c,T,a⟩,_⟩:=j 4 0 (k5 _ (by simp[a7,b]));refine⟨(am.1 a).1,u,v,T,?_⟩;simp only[bi,GS,c9,a,da]at k3;rw[a,k3,b]
section
variable[Gl]{P:aT}
theorem Ze{f:FuncId}{args:List PV}{v:PV}(g:Enters P f)(h:aB P f args v){w:a2}{ad:Nat->Prop}{a:List av}(d:∀k,ad k->k<w.heap.size)(i:mZ P w ad)(c:br P w ad args a):
 Calls P f a.toArray w fun e w'=>∃b,∃aH:Nat->Prop,e=.returned b/\w.heap.size<=w'.heap.size/\(∀k,k<w.heap.size->w'.heap[k]?=w.heap[k]?)/\(w'.os=w.os/\w'.output=w.output)/\aF P w' aH v b:=by
 rcases h with h|h
 ·refine(h.2 w ad a d i c).mono ?_;rintro e w' ⟨b,aH,k1,_,_,_,k5,k6,j,k7⟩;exact⟨b,aH,k1,k5,k6,j,k7⟩
 ·obtain⟨b,k1,_⟩:=h w ad a c;rw[g a.toArray w]at k1;cases k1
theorem aF8{w w':a2}(h:∀k,k<w.heap.size->w'.heap[k]?=w.heap[k]?)(a:w'.os=w.os/\w'.output=w.output)(b:ap->Prop):w.keptBut w' b:=by
 refine⟨a.1,a.2,fun i hi=>?_⟩;rw[h i hi];cases w.heap[i]? with
 |none=>rfl
 |some o=>cases o<;>first|exact⟨rfl,rfl,rfl,fun _ _=>rfl⟩|exact .inr ⟨rfl,rfl⟩|rfl
theorem aHS{w w':a2}(h:∀k,k<w.heap.size->w'.heap[k]?=w.heap[k]?){p:ap}(a:p.block<w.heap.size):w.sameAt w' p:=by
 cases p with
 |cell b o=>simp only[bl,be];rw[h b a]
 |map b=>simp only[bl];rw[h b a]
theorem VK{H:Type}{e:ax×av->H}{f:Func}{s:a3}{apart fresh handsOn:Bool}{W c:a2}{args:Array av}{v:av}{d g:List (ay H)}{a pa pv:List ap}
 (j:a6 e P f.params.toList s.vars apart W args.toList d g a)
 (o:∀(b:Nat)(sp:Nat->Bool)(m:Bool),a5 e P c b sp m f.resultTypes.toList (v.resultList f.resultTypes.size) (s.fn H (d++g)).results [])
 (l:∀sp:Nat->Bool,(∀p∈a,sp p.block=true)->a5 e P c 0 sp true f.params.toList args.toList (s.fn H (d++g)).args pa)
 (q:∀sp:Nat->Bool,(∀p∈a,sp p.block=true)->DataW.TrodVars e P c sp s.vars (s.fn H (d++g)).vars pv)
 (n:a=pa++pv)(hk:W.keptBut c (·∈a)):s.post e P f apart fresh handsOn false W args v c:=by
 have k:∀p∈a,(fun b=>decide (b<W.heap.size)) p.block=true:=fun p i=>by simpa using j.lt p i
 refine⟨d,g,a,[],pa,pv,j,o _ _ _,l _ k,q _ k,World.keptBut_mono (fun p i=>⟨i,?_⟩) hk,fun h=>by cases h⟩;rw[n,List.mem_append]at i;exact Or.inr i
end
section
variable{H:Type}{enc:ax×av->H}{P:aT}{w:a2}
theorem XP{n:Nat}{t:ax}{d:ay H}{cs:List av}{ad:Nat->Prop}(h:aZ P w ad (bF P n t d) cs):
 (((∃fs,P.underlying t=some (.struct fs))\/∃m e,P.underlying t=some (.array m e))/\∃u,aL (bF P n t d)=.agg u)\/((P.underlying t=some .bool\/(∃k,P.underlying t=some (.int k))\/P.underlying t=some .string\/∃e,P.underlying t=some (.slice e))/\aL (bF P n t d)=.leaf):=by
 cases n with
 |zero=>simp only[bF,aZ]at h
 |succ n=>
  unfold bF at h⊢
  split at h
  ·rename_i a;exact .inr ⟨.inl a,rfl⟩
  ·rename_i k z a
   split at h
   ·rename_i b;rw[if_pos b];exact .inr ⟨.inr (.inl ⟨_,a⟩),rfl⟩
   ·simp only[aZ]at h
  ·rename_i a;exact .inr ⟨.inr (.inr (.inl a)),rfl⟩
  ·rename_i a;exact .inr ⟨.inr (.inr (.inr ⟨_,a⟩)),rfl⟩
  ·rename_i a;exact .inr ⟨.inr (.inr (.inr ⟨_,a⟩)),rfl⟩
  ·rename_i a;exact .inl ⟨.inl ⟨_,a⟩,_,rfl⟩
  ·rename_i a;exact .inl ⟨.inr ⟨_,_,a⟩,_,rfl⟩
  ·simp only[aZ]at h
theorem XN[Gl]{n:Nat}{t:ax}{v:av}{d:ay H}{f:List ap}{g i:Nat}{r:Reach}(j:lR P n t=true)(h:DataW.Trod enc P w g (fun _=>true) true t v d f)(b:a8 P w r i t v):
 aF P w (fun k=>k<w.heap.size) (bF P n t d) v:=by
 obtain⟨fuel,h⟩:=h;have hc:=vL n fuel t _ d f j h;rcases XP hc with⟨a,u,hs⟩|⟨a,hs⟩
 ·have:∃cs,v=.agg cs:=by
   rcases a with⟨fs,a⟩|⟨m,e,a⟩
   ·simp only[a8,a]at b;obtain⟨cs,rfl,_,_⟩:=b;exact⟨cs,rfl⟩
   ·simp only[a8,a]at b;obtain⟨cs,rfl,_,_⟩:=b;exact⟨cs,rfl⟩
  obtain⟨cs,rfl⟩:=this;rw[vW hs]at hc;simpa[a9]using hc
 ·rw[tI hs]at hc;obtain⟨c,hc,l⟩:=hc;have:v=c:=by
   cases v with
   |agg cs=>rcases a with a|⟨k,a⟩|a|⟨e,a⟩<;>simp[a8,a,Cell.okWide,Cell.ok]at b
   |_=>simpa[a9]using hc
  rw[this];exact l
def rQ(P:aT)(n:Nat):List ax->List (ay H)->List PV
 |t::ts,d::ds=>bF P n t d::rQ P n ts ds
 |_,_=>[]
theorem Cy[Gl]{n:Nat}{base:Nat}{r:Reach}:∀{ts:List ax}{vs:List av}{ds:List (ay H)}{h:List ap},(∀t∈ts,lR P n t=true)->a5 enc P w 0 (fun _=>true) true ts vs ds h->
 (∀(j:Nat) t v,ts[j]?=some t->vs[j]?=some v->a8 P w r base t v)->br P w (fun k=>k<w.heap.size) (rQ P n ts ds) vs/\ds.length=ts.length
 |[],[],[],_,_,_,_=>by simp[rQ,br]
 |t::ts,v::vs,d::ds,_,b,⟨p,q,e,f,_⟩,c=>by
  have⟨i1,i2⟩:=Cy (ts:=ts) (vs:=vs) (ds:=ds) (fun t a=>b t (bo _ a)) f (fun j t v a g=>c (j+1) t v (by simpa using a) (by simpa using g));refine⟨?_,by simp[i2]⟩;simp only[rQ,br];exact⟨v,vs,rfl,XN (b t bp) e (c 0 t v rfl rfl),i1⟩
theorem Lj{n:Nat}:∀{ts:List ax}{vs:List av}{ds:List (ay H)}{g:List ap},(∀t∈ts,lR P n t=true)->a5 enc P w 0 (fun _=>true) true ts vs ds g->
 ∀p∈ts.zip ds,∃cs,aZ P w (fun k=>k<w.heap.size) (bF P n p.1 p.2) cs
 |[],[],[],_,_,_=>by simp
 |t::ts,v::vs,d::ds,_,a,⟨p,q,⟨fuel,b⟩,c,_⟩=>by
  have f:=Lj (ts:=ts) (vs:=vs) (ds:=ds) (fun t e=>a t (bo _ e)) c;intro x hx;rw[cb]at hx;rcases b4.1 hx with rfl|hx
  ·exact⟨_,vL n fuel t _ d p (a t bp) b⟩
  ·exact f x hx
theorem IF{w':a2}{f:Nat}{g:Nat->Bool}{held:Bool}:∀{c:List ax}{vs:List av}{a:List (ay H)}{b:List ap},a5 enc P w f g held c vs a b->(∀p∈b,w.sameAt w' p)->
 a5 enc P w' f g held c vs a b
 |[],[],[],_,h,_=>h
 |t::c,v::vs,d::a,_,⟨p,q,⟨n,i⟩,j,e⟩,hs=>by
  subst e;exact⟨p,q,⟨n,DataW.trod_carry n _ _ _ i fun x hx=>hs x (List.mem_append_left _ hx)⟩,IF j fun x hx=>hs x (List.mem_append_right _ hx),rfl⟩
theorem Uq[Gl]{f:FuncId}{fn:Func}{s:a3}{n:Nat}{T:ax->Prop}(u:s.vars=[])(D:∀(H:Type)(a:List (ay H)),a.length=fn.params.size->(s.fn H a).results=[.lit (.bool true)]/\(s.fn H a).args=a/\(s.fn H a).vars=[])
 (K:Kids P T)(O:∀t e,T t->P.underlying t=some (.slice e)->0<P.cellsOf e)(z:∀t∈fn.params.toList,T t)(r:∀t∈fn.params.toList,lR P n t=true){tb:ax}(J:fn.resultTypes=#[tb])(B:P.underlying tb=some .bool)
 (C:Enters P f){W:a2}{args:Array av}{a c:List (ay H)}{y:List ap}{w:Nat}(E:mZ P W (fun k=>k<W.heap.size))
 (F:(∀p∈fn.params.toList.zip a,∃cs,aZ P W (fun k=>k<W.heap.size) (bF P n p.1 p.2) cs)->aB P f (rQ P n fn.params.toList a) (.bool true))
 (N:∀(j:Nat) t v,fn.params[j]?=some t->args[j]?=some v->a8 P W .any w t v)
 (o:a6 enc P fn.params.toList s.vars false W args.toList a c y):
 Calls P f args W fun e l=>∃v,e=.returned v/\s.post enc P fn false true false false W args v l:=by
 have A:=o;obtain⟨p,q,d,h,rfl,R,S⟩:=o;rw[u]at h;have⟨i,hlen⟩:=Cy r d (fun j t v L M=>N j t v (by simpa using L) (by simpa using M));have G:c=[]/\q=[]:=by
  cases c with
  |nil=>exact⟨rfl,h⟩
  |cons g c=>exact h.elim
 obtain⟨rfl,rfl⟩:=G;have hc:=Ze C (F (Lj r d)) (fun k hk=>hk) E i;refine hc.mono ?_;rintro e l ⟨m,aH,rfl,k1,k2,k3,k4⟩;refine⟨m,rfl,?_⟩;obtain⟨f1,f2,f3⟩:=D H (a++[]) (by simpa using hlen);have e1:m=.bool true:=by simpa[aF]using k4
 have I:=DataW.TrodAll.lt d;refine VK (pa:=p) (pv:=[]) A ?_ ?_ ?_ rfl (aF8 k2 k3 _)
 ·intro b sp Q;rw[f1,J,e1];refine⟨[],[],⟨1,?_⟩,rfl,rfl⟩;simp[a4,B,a9]
 ·intro sp hs;rw[f2];simp only[List.append_nil]at hs⊢;exact IF (DataW.TrodAll.respare K O z d fun p i=>hs p i) fun x hx=>aHS k2 (I x hx)
 ·intro sp hs;rw[f3,u];rfl
end
end Go.aq
