import Derived.Test.YtenbmieafgdjaaaGreatDoorMThE
import Derived.Deep.Slices
import Derived.Test.YtenbmieafgdjaaaGreatDoorProg
import Derived.KernelRfl
import Derived.Lib.ItoaNum
import Derived.Test.YtenbmieafgdjaaaGreatDoorRows
import Derived.Lib.LaidTab
import Derived.ReadAgain
import Derived.ChangeOld
import Derived.RowKit3
import Derived.ChangeSame
import Derived.WideShapes
/- Parts of a proof. -/
set_option linter.unusedSimpArgs false
set_option linter.unusedVariables false
set_option linter.unusedSectionVars false
open Go.Proofs.Tryz
open Array renaming getElem?_eq_some_iff->am
open Bool renaming and_eq_true->ao
open Go renaming MemPlace->ap, Value->av, TypeId->ax, DataW->ay, Program->aT, World->a0, ChangeSpec->a1
open Go.DataW renaming trod->a2, TrodAll->a3, Whole->a4
open Go.Value renaming okWide->a5, cells->a6
open Go.World renaming cells?_some->a7, cell?->a8, sameAt->a9
open List renaming getElem?_eq_getElem->bb, mem_cons_of_mem->be, mem_cons_self->bi, range->bk, flatten_append->bl, map_cons->bo, range_succ->bv, map_append->b0, mem_cons->b1, take_of_length_le->b2, zip_cons_cons->b3, replicate->b4, mem_range->b5, take_add->cb, sum_cons->cc
open Nat renaming succ_mul->ce
namespace Go.al
open Go.Deep
section
variable{H:Type}
def bE(P:aT):Nat->ax->ay H->PV
 |0,_,_=>.undef
 |n+1,t,d=>match P.underlying t,d with
  |some .bool,.lit (.bool b)=>.bool b
  |some (.int k),.lit (.int _ z)=>if(Lit.int k z).wf=true then .int k z else .undef
  |some .string,.lit (.string s)=>.str (s.map (·.toNat))
  |some (.slice e),.slice ds _=>.seq (ds.map (bE P n e))
  |some (.slice _),.nil=>.seq []
  |some (.struct fs),.agg ds=>.st (P.underlyingId t) ((fs.toList.zip ds).map fun p=>bE P n p.1.type p.2)
  |some (.array _ e),.agg ds=>.st (P.underlyingId t) (ds.map (bE P n e))
  |_,_=>.undef
def yA(P:aT):Nat->List Field->Bool
 |_,[]=>true
 |o,f::fs=>(f.offset==o)&&yA P (o+P.cellsOf f.type) fs
def kI(P:aT):Nat->ax->Bool
 |0,_=>false
 |n+1,t=>match P.underlying t with
  |some .bool|some (.int _)|some .string=>true
  |some (.slice e)=>kI P n e&&decide (0<P.cellsOf e)
  |some (.struct fs)=>(dH P (P.underlyingId t)==some (fs.toList.map fun f=>P.cellsOf f.type))&&yA P 0 fs.toList&&(((fs.toList.map fun f=>P.cellsOf f.type).sum)==P.cellsOf t)&&fs.toList.all fun f=>kI P n f.type
  |some (.array m e)=>(dH P (P.underlyingId t)==some (b4 m (P.cellsOf e)))&&(m*P.cellsOf e==P.cellsOf t)&&kI P n e
  |_=>false
variable{enc:ax×av->H}{P:aT}{w:a0}{base:Nat}{held:Bool}
theorem LF{n k:Nat}{aa:Nat->Prop}(l:∀t cs d u,kI P n t=true->a2 enc P w base (fun _=>true) held k t cs=some (d,u)->aS P w aa (bE P n t d) cs):
 ∀(fs:List Field)(a:List (ay H×List ap))(o:Nat)(cs:List av),yA P o fs=true->a.length=fs.length->(∀f∈fs,kI P n f.type=true)->o+(fs.map fun f=>P.cellsOf f.type).sum<=cs.length->
  (∀(i:Nat)(f:Field),fs[i]?=some f->a2 enc P w base (fun _=>true) held k f.type ((cs.drop f.offset).take (P.cellsOf f.type))=a[i]?)->
  bc P w aa (fs.map fun f=>P.cellsOf f.type) ((fs.zip (a.map (·.1))).map fun p=>bE P n p.1.type p.2) (fs.map fun f=>(cs.drop f.offset).take (P.cellsOf f.type))/\
   (fs.map fun f=>(cs.drop f.offset).take (P.cellsOf f.type)).flatten=(cs.drop o).take (fs.map fun f=>P.cellsOf f.type).sum
 |[],a,o,cs,_,b,_,_,_=>by
  have:a=[]:=by simpa using b
  subst this;simp[bc]
 |f::fs,[],o,cs,_,b,_,_,_=>by simp at b
 |f::fs,x::a,o,cs,c,b,h,hlen,hx=>by
  simp only[yA,ao,beq_iff_eq]at c;obtain⟨c,s⟩:=c;simp only[bo,cc]at hlen;have j:=hx 0 f rfl;simp only[List.getElem?_cons_zero]at j;have m:=l _ _ x.1 x.2 (h f bi) j;have⟨q,r⟩:=LF l fs a (o+P.cellsOf f.type) cs s (by simpa using b) (fun g e=>h g (be _ e)) (by omega) (fun i g e=>by have:=hx (i+1) g (by simpa using e);simpa using this);refine⟨?_,?_⟩
  ·simp only[bo,b3,bc];exact⟨_,_,rfl,m,by simp[c];omega,q⟩
  ·simp only[bo,List.flatten_cons,cc,r,c];rw[<-List.drop_drop,cb]
theorem Ay{ai len:Nat}{aa:Nat->Prop}{f:Nat->PV}{g:Nat->List av}:∀{l:List Nat},(∀i∈l,aS P w aa (f i) (g i)/\(g i).length=ai)->bc P w aa (b4 l.length ai) (l.map f) (l.map g)
 |[],_=>by simp[bc]
 |a::l,h=>by
  simp only[List.length_cons,List.replicate_succ,bo,bc];exact⟨_,_,rfl,(h a bi).1,(h a bi).2,Ay (len:=len) fun i hi=>h i (be _ hi)⟩
theorem trod_array{m:Nat}{e t:ax}{b:Nat}{cs:List av}{x:ay H×List ap}{d:Nat->Bool}(g:P.underlying t=some (.array m e))(h:a2 enc P w base d held b t cs=some x):
 ∃(a:List (ay H×List ap))(n:Nat),b=n+1/\x=(.agg (a.map (·.1)),a.flatMap (·.2))/\cs.length=P.cellsOf t/\a.length=m/\
  ∀i,i<m->a2 enc P w base d held n e ((cs.drop (i*P.cellsOf e)).take (P.cellsOf e))=a[i]?:=by
 cases b with
 |zero=>simp[a2]at h
 |succ n=>
  unfold a2 at h;rw[g]at h
  split at h<;>simp_all
  obtain⟨j,a,c,f⟩:=h;exact⟨a,f.symm,by simpa using mapM_some_length c,fun i hi=>mapM_some_get c i i (by simp[hi])⟩
theorem GP{α:Type}{cs:List α}{ai:Nat}:∀m,((bk m).map fun i=>(cs.drop (i*ai)).take ai).flatten=cs.take (m*ai)
 |0=>by simp
 |m+1=>by
  rw[bv,b0,bl,GP m,ce,cb];simp
theorem BG{V:Nat->List av}{ai:Nat}:∀(len:Nat),(∀i,i<len->(V i).length=ai)->((bk len).map V).flatten.length=len*ai
 |0,_=>by simp
 |len+1,h=>by
  rw[bv,b0,bl,List.length_append,BG len fun i hi=>h i (by omega),ce];simp[h len (by omega)]
theorem Hr{V:Nat->List av}{ai b o:Nat}:∀(len:Nat),(∀i,i<len->(V i).length=ai)->(∀i,i<len->∀j,j<ai->w.cell? ⟨b,o+(i*ai+j),none⟩=(V i)[j]?)->gz w b o ((bk len).map V).flatten
 |0,_,_=>by intro i hi;simp at hi
 |len+1,h,hc=>by
  intro i hi;have a:=BG (V:=V) (ai:=ai) len fun i hi=>h i (by omega);have c:=Hr (V:=V) (ai:=ai) (b:=b) (o:=o) len (fun i hi=>h i (by omega)) (fun i hi=>hc i (by omega));have e:((bk (len+1)).map V).flatten=((bk len).map V).flatten++V len:=by
   rw[bv,b0,bl];simp
  have f:i<len*ai+ai:=by
   have:=BG (V:=V) (ai:=ai) (len+1) h;rw[ce]at this;omega
  rw[<-bb hi,e]
  by_cases d:i<len*ai
  ·rw[List.getElem?_append_left (by omega),bb (by omega)];exact c i (by omega)
  ·rw[List.getElem?_append_right (by omega),a];have:=hc len (by omega) (i-len*ai) (by omega);rw[<-this];congr 3;omega
theorem uG:∀(n:Nat)(J:Nat)(t:ax)(cs:List av)(d:ay H)(r:List ap),kI P n t=true->a2 enc P w base (fun _=>true) held J t cs=some (d,r)->
 aS P w (fun k=>k<w.heap.size) (bE P n t d) cs
 |0,_,_,_,_,_,h,_=>by simp[kI]at h
 |n+1,J,t,cs,d,r,h,p=>by
  simp only[kI]at h
  split at h
  ·rename_i o;obtain⟨b,rfl,hx⟩:=DataW.trod_bool o p;cases hx;simp[bE,o,aS]
  ·rename_i k o;obtain⟨z,rfl,hx,E⟩:=DataW.trod_int o p;cases hx;simp[bE,o,E,aS]
  ·rename_i o;obtain⟨s,rfl,hx,_⟩:=DataW.trod_string o p;cases hx;simp[bE,o,aS]
  ·rename_i e o;simp only[ao,decide_eq_true_eq]at h;obtain⟨v,B⟩:=h;rcases open_slice o p with⟨rfl,hx⟩|⟨a,len,cap,m,k,D,S,rfl,ad,Y,af,O,hx,U⟩
   ·cases hx;simp[bE,o,aS]
   cases hx;simp only[if_true]at O;subst O;obtain⟨V,q⟩:=choose_lt U;have R:a.spot=none\/m=0:=by
    by_cases E:m=0
    ·exact .inr E
    left;obtain⟨c1,_⟩:=q 0 (by omega);obtain⟨_,c2,c3⟩:=a7 c1;have c4:=c3 0 B;rw[bb (by omega)]at c4;simp only[Addr.add,Nat.zero_mul,if_true]at c4;unfold a8 at c4
    split at c4
    ·split at c4
     ·cases c4
     ·rename_i hs;simpa using hs
    ·cases c4
   have M:∀i,i<m->∀j,j<P.cellsOf e->w.cell? ⟨a.block,a.off+(i*P.cellsOf e+j),none⟩=(V i)[j]?:=by
    intro i hi j X;have hs:a.spot=none:=R.resolve_right (by omega);obtain⟨_,_,c3⟩:=a7 (q i hi).1;have:=c3 j X;rw[add_add]at this;rw[<-this];obtain⟨F,G,I⟩:=a;simp only at hs;subst hs;unfold Addr.add;split<;>simp_all
   have A:∀i,i<m->(V i).length=P.cellsOf e:=fun i hi=>(a7 (q i hi).1).2.1;simp only[bE,o,aS];right;obtain⟨F,G,I⟩:=a;refine⟨F,G,m,P.cellsOf e,(bk len).map V,?_,?_,?_,by simpa using Y,I,R,by simp⟩
   ·have:=Ay (P:=P) (w:=w) (len:=len) (ai:=P.cellsOf e) (aa:=fun k=>k<w.heap.size) (f:=fun i=>bE P n e (D i)) (g:=V) (l:=bk len) (fun i hi=>by
     have hi:i<m:=by have:=b5.1 hi;omega
     exact⟨uG n k e (V i) (D i) (S i) v (q i hi).2,A i hi⟩)
    simpa[Function.comp_def]using this
   ·intro Z;have ac:0<len:=by
     rcases Nat.eq_zero_or_pos len with h|h
     ·subst h;simp at Z
     ·exact h
    have c:=M 0 (by omega) 0 B;rw[bb (by rw[A 0 (by omega)];exact B)]at c;unfold a8 at c
    split at c
    ·rename_i y;exact(am.1 y).1
    ·cases c
   ·exact Hr len (fun i hi=>A i (by omega)) (fun i hi=>M i (by omega))
  ·rename_i fs o;simp only[ao,beq_iff_eq,List.all_eq_true]at h;obtain⟨⟨⟨u,K⟩,L⟩,T⟩:=h;obtain⟨xs,k,rfl,hx,hlen,C,hf⟩:=DataW.trod_struct o p;cases hx;have⟨g1,g2⟩:=LF (aa:=fun k=>k<w.heap.size) (fun t cs d r ab y=>uG n k t cs d r ab y) fs.toList xs 0 cs K (by simpa using C) T (by omega) (fun i f hi=>hf i f (by simpa using hi));simp only[bE,o,aS];refine⟨_,_,u,g1,?_⟩;rw[g2,List.drop_zero,b2 (by omega)]
  ·rename_i m e o;simp only[ao,beq_iff_eq]at h;obtain⟨⟨u,K⟩,L⟩:=h;obtain⟨xs,k,rfl,hx,hlen,C,hf⟩:=trod_array o p;cases hx;have Q:=Ay (P:=P) (w:=w) (len:=m) (ai:=P.cellsOf e) (aa:=fun k=>k<w.heap.size) (f:=fun i=>match xs[i]? with
     |some x=>bE P n e x.1
     |none=>.undef) (g:=fun i=>(cs.drop (i*P.cellsOf e)).take (P.cellsOf e)) (l:=bk m) (fun i hi=>by
      have hi:i<m:=b5.1 hi;have N:=hf i hi;rw[bb (by omega)]at N⊢;refine⟨uG n k e _ xs[i].1 xs[i].2 L N,?_⟩;have:(i+1)*P.cellsOf e<=m*P.cellsOf e:=Nat.mul_le_mul_right _ hi;rw[ce]at this;simp;omega)
   have v:((bk m).map fun i=>match xs[i]? with
    |some x=>bE P n e x.1
    |none=>.undef)=(xs.map (·.1)).map (bE P n e):=by
    apply List.ext_getElem
    ·simp[C]
    ·intro i W ae;simp at W;simp[bb (show i<xs.length by omega)]
   rw[v,List.length_range]at Q;simp only[bE,o,aS];refine⟨_,_,u,Q,?_⟩;rw[GP,b2 (by omega)]
  ·cases h
end
open Go.Proofs
def DH:Array av:=(Lib.pow10Tab.map fun z=>Value.int .u64 z).toArray
def aBn:Nat->Option (Array av)
 |1=>some DH
 |_=>none
instance YO:Gl:=⟨fun _=>.undef,5,aBn,fun u=>bif Nat.beq u 226 then some 227 else none⟩
@[simp] theorem ki3:kindOf prog 3=.leaf:=by kernel_rfl
@[simp] theorem DL:prog.underlying 3=some (.int .i64):=by kernel_rfl
@[simp] theorem tz3:cJ prog 3=some (.int .i64 (0)):=by kernel_rfl
@[simp] theorem ki4:kindOf prog 4=.leaf:=by kernel_rfl
@[simp] theorem DM:prog.underlying 4=some .bool:=by kernel_rfl
@[simp] theorem ib4:pU prog 4=true:=by kernel_rfl
@[simp] theorem tz4:cJ prog 4=some (.bool false):=by kernel_rfl
@[simp] theorem tz5:cJ prog 5=some (.int .u8 (0)):=by kernel_rfl
@[simp] theorem ki9:kindOf prog 9=.leaf:=by kernel_rfl
@[simp] theorem DO:prog.underlying 9=some .string:=by kernel_rfl
@[simp] theorem at9:gJ prog 9=true:=by kernel_rfl
@[simp] theorem tz9:cJ prog 9=some (.str []):=by kernel_rfl
@[simp] theorem aHB:kindOf prog 22=.leaf:=by kernel_rfl
@[simp] theorem aDR:prog.underlying 22=some (.slice 61):=by kernel_rfl
@[simp] theorem aE8:gJ prog 22=true:=by kernel_rfl
@[simp] theorem aFL:cL prog 22=some 2:=by kernel_rfl
@[simp] theorem aGu:dN prog 22=61:=by kernel_rfl
@[simp] theorem aKP:cJ prog 22=some (.aF):=by kernel_rfl
@[simp] theorem aHE:kindOf prog 23=.leaf:=by kernel_rfl
@[simp] theorem aDS:prog.underlying 23=some (.slice 110):=by kernel_rfl
@[simp] theorem aFa:gJ prog 23=true:=by kernel_rfl
@[simp] theorem aFO:cL prog 23=some 4:=by kernel_rfl
@[simp] theorem aGw:dN prog 23=110:=by kernel_rfl
@[simp] theorem aHG:kindOf prog 24=.leaf:=by kernel_rfl
@[simp] theorem aDT:prog.underlying 24=some (.slice 49):=by kernel_rfl
@[simp] theorem aFb:gJ prog 24=true:=by kernel_rfl
@[simp] theorem aFR:cL prog 24=some 3:=by kernel_rfl
@[simp] theorem aGx:dN prog 24=49:=by kernel_rfl
@[simp] theorem aHH:kindOf prog 26=.agg 25:=by kernel_rfl
@[simp] theorem aKs:fx prog 26=some (25,4):=by kernel_rfl
@[simp] theorem aKR:cJ prog 26=some (.st 25 [.aF,.int .i64 (0),.aF,.aF]):=by kernel_rfl
@[simp] theorem aFT:cL prog 31=some 2:=by kernel_rfl
@[simp] theorem aGA:dN prog 31=47:=by kernel_rfl
@[simp] theorem aHK:kindOf prog 32=.leaf:=by kernel_rfl
@[simp] theorem aKU:cJ prog 32=some (.int .i64 (0)):=by kernel_rfl
@[simp] theorem aHQ:kindOf prog 35=.leaf:=by kernel_rfl
@[simp] theorem aFc:gJ prog 35=true:=by kernel_rfl
@[simp] theorem aFU:cL prog 35=some 4:=by kernel_rfl
@[simp] theorem aGB:dN prog 35=112:=by kernel_rfl
@[simp] theorem aHS:kindOf prog 36=.leaf:=by kernel_rfl
@[simp] theorem aFe:gJ prog 36=true:=by kernel_rfl
@[simp] theorem aFY:cL prog 36=some 3:=by kernel_rfl
@[simp] theorem aGC:dN prog 36=152:=by kernel_rfl
@[simp] theorem aHV:kindOf prog 38=.agg 37:=by kernel_rfl
@[simp] theorem aKt:fx prog 38=some (37,4):=by kernel_rfl
@[simp] theorem aKV:cJ prog 38=some (.st 37 [.aF,.int .i64 (0),.aF,.aF]):=by kernel_rfl
@[simp] theorem aH0:kindOf prog 45=.leaf:=by kernel_rfl
@[simp] theorem DN:prog.underlying 45=some .string:=by kernel_rfl
@[simp] theorem aKX:cJ prog 45=some (.str []):=by kernel_rfl
@[simp] theorem aIE:kindOf prog 47=.agg 46:=by kernel_rfl
@[simp] theorem aKu:fx prog 47=some (46,2):=by kernel_rfl
@[simp] theorem aKY:cJ prog 47=some (.st 46 [.str [],.str []]):=by kernel_rfl
@[simp] theorem aII:kindOf prog 49=.agg 48:=by kernel_rfl
@[simp] theorem aKv:fx prog 49=some (48,2):=by kernel_rfl
@[simp] theorem aKZ:cJ prog 49=some (.st 48 [.str [],.st 46 [.str [],.str []]]):=by kernel_rfl
@[simp] theorem aIJ:kindOf prog 61=.agg 60:=by kernel_rfl
@[simp] theorem aKw:fx prog 61=some (60,2):=by kernel_rfl
@[simp] theorem aK1:cJ prog 61=some (.st 60 [.int .i64 (0),.int .i64 (0)]):=by kernel_rfl
@[simp] theorem aDV:prog.underlying 64=some (.slice 75):=by kernel_rfl
@[simp] theorem aFg:gJ prog 64=true:=by kernel_rfl
@[simp] theorem aF1:cL prog 64=some 3:=by kernel_rfl
@[simp] theorem aGF:dN prog 64=75:=by kernel_rfl
@[simp] theorem aFh:gJ prog 70=true:=by kernel_rfl
@[simp] theorem aF3:cL prog 70=some 3:=by kernel_rfl
@[simp] theorem aGG:dN prog 70=72:=by kernel_rfl
@[simp] theorem aIK:kindOf prog 72=.agg 48:=by kernel_rfl
@[simp] theorem aKx:fx prog 72=some (48,2):=by kernel_rfl
@[simp] theorem aK2:cJ prog 72=some (.st 48 [.str [],.st 46 [.str [],.str []]]):=by kernel_rfl
@[simp] theorem aIL:kindOf prog 75=.agg 48:=by kernel_rfl
@[simp] theorem aKy:fx prog 75=some (48,2):=by kernel_rfl
@[simp] theorem aK3:cJ prog 75=some (.st 48 [.str [],.st 46 [.str [],.str []]]):=by kernel_rfl
@[simp] theorem aFi:gJ prog 82=true:=by kernel_rfl
@[simp] theorem aF8:cL prog 82=some 1:=by kernel_rfl
@[simp] theorem aGH:dN prog 82=9:=by kernel_rfl
@[simp] theorem aIM:kindOf prog 87=.agg 86:=by kernel_rfl
@[simp] theorem aKz:fx prog 87=some (86,3):=by kernel_rfl
@[simp] theorem aIO:kindOf prog 91=.agg 86:=by kernel_rfl
@[simp] theorem aKA:fx prog 91=some (86,3):=by kernel_rfl
@[simp] theorem aHn:kindOf prog 110=.agg 109:=by kernel_rfl
@[simp] theorem aKl:fx prog 110=some (109,4):=by kernel_rfl
@[simp] theorem aKH:cJ prog 110=some (.st 109 [.str [],.int .i64 (0),.str [],.str []]):=by kernel_rfl
@[simp] theorem aHo:kindOf prog 112=.agg 109:=by kernel_rfl
@[simp] theorem aKm:fx prog 112=some (109,4):=by kernel_rfl
@[simp] theorem aKI:cJ prog 112=some (.st 109 [.str [],.int .i64 (0),.str [],.str []]):=by kernel_rfl
@[simp] theorem aHp:kindOf prog 128=.leaf:=by kernel_rfl
@[simp] theorem aFH:cL prog 128=some 1:=by kernel_rfl
@[simp] theorem aGq:dN prog 128=308:=by kernel_rfl
@[simp] theorem aHq:kindOf prog 130=.agg 129:=by kernel_rfl
@[simp] theorem aKn:fx prog 130=some (129,2):=by kernel_rfl
@[simp] theorem aKJ:cJ prog 130=some (.st 129 [.int .i64 (0),.aF]):=by kernel_rfl
@[simp] theorem aHt:kindOf prog 132=.agg 131:=by kernel_rfl
@[simp] theorem aKo:fx prog 132=some (131,2):=by kernel_rfl
@[simp] theorem aKK:cJ prog 132=some (.st 131 [.st 129 [.int .i64 (0),.aF],.st 129 [.int .i64 (0),.aF]]):=by kernel_rfl
@[simp] theorem aHu:kindOf prog 134=.agg 133:=by kernel_rfl
@[simp] theorem aE3:gK prog 134=some (133,2):=by kernel_rfl
@[simp] theorem aKL:cJ prog 134=some (.st 133 [.st 131 [.st 129 [.int .i64 (0),.aF],.st 129 [.int .i64 (0),.aF]],.st 131 [.st 129 [.int .i64 (0),.aF],.st 129 [.int .i64 (0),.aF]]]):=by kernel_rfl
@[simp] theorem aHw:kindOf prog 152=.agg 48:=by kernel_rfl
@[simp] theorem aKp:fx prog 152=some (48,2):=by kernel_rfl
@[simp] theorem aKM:cJ prog 152=some (.st 48 [.str [],.st 46 [.str [],.str []]]):=by kernel_rfl
@[simp] theorem aHx:kindOf prog 156=.leaf:=by kernel_rfl
@[simp] theorem aE7:gJ prog 156=true:=by kernel_rfl
@[simp] theorem aFJ:cL prog 156=some 1:=by kernel_rfl
@[simp] theorem aGr:dN prog 156=3:=by kernel_rfl
@[simp] theorem aHy:kindOf prog 164=.agg 164:=by kernel_rfl
@[simp] theorem aE5:gK prog 164=some (164,2):=by kernel_rfl
@[simp] theorem aKN:cJ prog 164=some (.st 164 [.st 133 [.st 131 [.st 129 [.int .i64 (0),.aF],.st 129 [.int .i64 (0),.aF]],.st 131 [.st 129 [.int .i64 (0),.aF],.st 129 [.int .i64 (0),.aF]]],.st 133 [.st 131 [.st 129 [.int .i64 (0),.aF],.st 129 [.int .i64 (0),.aF]],.st 131 [.st 129 [.int .i64 (0),.aF],.st 129 [.int .i64 (0),.aF]]]]):=by kernel_rfl
@[simp] theorem aHz:kindOf prog 170=.agg 169:=by kernel_rfl
@[simp] theorem aKq:fx prog 170=some (169,2):=by kernel_rfl
@[simp] theorem aKO:cJ prog 170=some (.st 169 [.bool false,.aF]):=by kernel_rfl
@[simp] theorem aHA:kindOf prog 180=.leaf:=by kernel_rfl
@[simp] theorem aFK:cL prog 180=some 1:=by kernel_rfl
@[simp] theorem aGt:dN prog 180=45:=by kernel_rfl
@[simp] theorem aHC:kindOf prog 225=.leaf:=by kernel_rfl
@[simp] theorem aFN:cL prog 225=some 1:=by kernel_rfl
@[simp] theorem aGv:dN prog 225=5:=by kernel_rfl
@[simp] theorem aHD:kindOf prog 227=.agg 226:=by kernel_rfl
@[simp] theorem aKr:fx prog 227=some (226,2):=by kernel_rfl
@[simp] theorem aKQ:cJ prog 227=some (.st 226 [.dD,.aF]):=by kernel_rfl
@[simp] theorem aFS:cL prog 248=some 1:=by kernel_rfl
@[simp] theorem aGy:dN prog 248=32:=by kernel_rfl
@[simp] theorem aHJ:kindOf prog 308=.leaf:=by kernel_rfl
@[simp] theorem aKT:cJ prog 308=some (.int .u64 (0)):=by kernel_rfl
@[simp] theorem aHW:kindOf prog 382=.agg 381:=by kernel_rfl
@[simp] theorem aE6:gK prog 382=some (381,256):=by kernel_rfl
@[simp] theorem aDc:dH prog 25=some [1,1,1,1]:=by kernel_rfl
@[simp] theorem aKG:dH prog 37=some [1,1,1,1]:=by kernel_rfl
@[simp] theorem aDf:dH prog 46=some [1,1]:=by kernel_rfl
@[simp] theorem Px:dH prog 48=some [1,2]:=by kernel_rfl
@[simp] theorem aDl:dH prog 60=some [1,1]:=by kernel_rfl
@[simp] theorem aDn:dH prog 86=some [1,1,2]:=by kernel_rfl
@[simp] theorem aDb:dH prog 109=some [1,1,1,1]:=by kernel_rfl
@[simp] theorem aKB:dH prog 129=some [1,1]:=by kernel_rfl
@[simp] theorem aKC:dH prog 131=some [2,2]:=by kernel_rfl
@[simp] theorem aKD:dH prog 133=some [4,4]:=by kernel_rfl
@[simp] theorem aKE:dH prog 164=some [8,8]:=by kernel_rfl
@[simp] theorem aKF:dH prog 169=some [1,1]:=by kernel_rfl
set_option maxRecDepth 100000
section
variable{H:Type}{w:a0}{aa:Nat->Prop}
theorem D9{P:aT}:∀{l:List Nat}{d:List PV}{b:List (List av)},bc P w aa l d b->∀e∈d,∃c,aS P w aa e c
 |_,[],_,_=>fun e a=>by cases a
 |[],v::vs,_,h=>by simp[bc]at h
 |n::i,v::vs,b,h=>by
  simp only[bc]at h;obtain⟨c,cs,_,f,_,g⟩:=h;intro e a;rcases b1.1 a with rfl|a
  ·exact⟨c,f⟩
  ·exact D9 g e a
theorem tG{n:Nat}(d:ay H)(c)(h:aS prog w aa (bE prog (n+1) 3 d) c):∃z:Int,bE prog (n+1) 3 d=.int .i64 z:=by
 cases d with
 |lit l=>
  cases l with
  |int k z=>
   simp only[bE,DL]at h⊢
   split at h
   ·rename_i a;rw[if_pos a];exact⟨_,rfl⟩
   ·simp only[aS]at h
  |_=>simp only[bE,DL,aS]at h
 |_=>simp only[bE,DL,aS]at h
end
theorem Gy{P:aT}{W:a0}{name:String}{d:ay Unit}:∀{l:List (String×ay Unit)}{b:List ap},DataW.LaidVars P W l b->(name,d)∈l->
 ∃g t cs a p,P.globalNamed name=some g/\(P.globals[g]?).map (·.type)=some t/\W.var? P name=some cs/\a2 (fun _=>()) P W 0 (fun _=>true) false a t cs.toList=some (d,p)/\∀x∈MemPlace.row ⟨g,0,none⟩ cs.size,x∈b
 |[],_,_,h=>by cases h
 |(n,d0)::r,b,h,hm=>by
  obtain⟨g,t,cs,a,p,q,j,k,m,o,s,rfl⟩:=h;rcases b1.1 hm with e|hm
  ·cases e;exact⟨g,t,cs,a,p,j,k,m,o,fun x hx=>by simp[hx]⟩
  ·obtain⟨i,v,c,f,u,k1,k2,k3,k4,k5⟩:=Gy s hm;exact⟨i,v,c,f,u,k1,k2,k3,k4,fun x hx=>by simp[k5 x hx]⟩
open Go.Proofs Go.Proofs.YtenbmieafgdjaaaGreatDoor
theorem IC:prog.globalNamed "internal/strconv.uint64pow10" =some 1:=by kernel_rfl
theorem SS:((Rows.tableRacksUptoRow.laid).filter fun x=>x.2.handleName?.isSome)=[]:=by kernel_rfl
theorem aAT:(prog.globals[1]?).map (·.type)=some 396:=by kernel_rfl
theorem aAU:prog.underlying 396=some (.array 20 308):=by kernel_rfl
theorem aAR:prog.underlying 308=some (.int .u64):=by kernel_rfl
theorem aAP:prog.cellsOf 308=1:=by kernel_rfl
theorem aAQ:prog.cellsOf 396=20:=by kernel_rfl
theorem YP{W:a0}(h:laidMetH prog Rows.tableRacksUptoRow.laid W):mb prog W (fun k=>k<W.heap.size):=by
 unfold laidMetH at h;rw[SS]at h;obtain⟨n,j,_,l⟩:=h;obtain⟨g,t,cs,fuel,p,k1,k2,k3,k4,k5⟩:=Gy (name:= "internal/strconv.uint64pow10") (d:=Lib.tabData .u64 Lib.pow10Tab) j (by
  show _∈[_,_,_,_,_,_,_];exact be _ (be _ bi))
 rw[IC]at k1;cases k1;rw[aAT]at k2;cases k2;have f:=Lib.cells_of_tab aAU aAR aAP aAQ k4;have e:cs=DH:=by rw[DH,<-f]
 have i:0<cs.size:=by rw[e];decide
 obtain⟨⟨c,T,b⟩,_⟩:=l 1 0 (k5 _ (by simp[MemPlace.row];exact i));refine⟨fun g=>by simp[aA,Gl.g],fun g m a=>?_⟩
 match g,a with
 |1,a=>
  cases a;refine⟨(am.1 b).1,T,?_⟩;simp only[World.var?,IC,Option.bind_some,b,Option.some.injEq]at k3;rw[b,k3,e]
section
variable[Gl]{P:aT}
theorem WM{f:FuncId}{args:List PV}{v:PV}(g:Enters P f)(h:az P f args v){w:a0}{aa:Nat->Prop}{a:List av}(d:∀k,aa k->k<w.heap.size)(i:mb P w aa)(c:bn P w aa args a):
 Calls P f a.toArray w fun e w'=>∃b,∃aE:Nat->Prop,e=.returned b/\w.heap.size<=w'.heap.size/\(∀k,k<w.heap.size->w'.heap[k]?=w.heap[k]?)/\(w'.os=w.os/\w'.output=w.output)/\aA P w' aE v b:=by
 rcases h with h|h
 ·refine(h.2 w aa a d i c).mono ?_;rintro e w' ⟨b,aE,k1,_,_,_,k5,k6,j,k7⟩;exact⟨b,aE,k1,k5,k6,j,k7⟩
 ·obtain⟨b,k1,_⟩:=h w aa a c;rw[g a.toArray w]at k1;cases k1
theorem azE{w w':a0}(h:∀k,k<w.heap.size->w'.heap[k]?=w.heap[k]?)(a:w'.os=w.os/\w'.output=w.output)(b:ap->Prop):w.keptBut w' b:=by
 refine⟨a.1,a.2,fun i hi=>?_⟩;rw[h i hi];cases w.heap[i]? with
 |none=>rfl
 |some o=>cases o<;>first|exact⟨rfl,rfl,rfl,fun _ _=>rfl⟩|exact .inr ⟨rfl,rfl⟩|rfl
theorem aCq{w w':a0}(h:∀k,k<w.heap.size->w'.heap[k]?=w.heap[k]?){p:ap}(a:p.block<w.heap.size):w.sameAt w' p:=by
 cases p with
 |cell b o=>simp only[a9,a8];rw[h b a]
 |map b=>simp only[a9];rw[h b a]
theorem Ti{H:Type}{e:ax×av->H}{f:Func}{s:a1}{apart fresh handsOn:Bool}{W c:a0}{args:Array av}{v:av}{d g:List (ay H)}{a pa pv:List ap}
 (j:a4 e P f.params.toList s.vars apart W args.toList d g a)
 (o:∀(b:Nat)(sp:Nat->Bool)(m:Bool),a3 e P c b sp m f.resultTypes.toList (v.resultList f.resultTypes.size) (s.fn H (d++g)).results [])
 (l:∀sp:Nat->Bool,(∀p∈a,sp p.block=true)->a3 e P c 0 sp true f.params.toList args.toList (s.fn H (d++g)).args pa)
 (q:∀sp:Nat->Bool,(∀p∈a,sp p.block=true)->DataW.TrodVars e P c sp s.vars (s.fn H (d++g)).vars pv)
 (n:a=pa++pv)(hk:W.keptBut c (·∈a)):s.post e P f apart fresh handsOn false W args v c:=by
 have k:∀p∈a,(fun b=>decide (b<W.heap.size)) p.block=true:=fun p i=>by simpa using j.lt p i
 refine⟨d,g,a,[],pa,pv,j,o _ _ _,l _ k,q _ k,World.keptBut_mono (fun p i=>⟨i,?_⟩) hk,fun h=>by cases h⟩;rw[n,List.mem_append]at i;exact Or.inr i
end
section
variable{H:Type}{enc:ax×av->H}{P:aT}{w:a0}
theorem Vp{n:Nat}{t:ax}{d:ay H}{cs:List av}{aa:Nat->Prop}(h:aS P w aa (bE P n t d) cs):
 (((∃fs,P.underlying t=some (.struct fs))\/∃m e,P.underlying t=some (.array m e))/\∃u,aL (bE P n t d)=.agg u)\/((P.underlying t=some .bool\/(∃k,P.underlying t=some (.int k))\/P.underlying t=some .string\/∃e,P.underlying t=some (.slice e))/\aL (bE P n t d)=.leaf):=by
 cases n with
 |zero=>simp only[bE,aS]at h
 |succ n=>
  unfold bE at h⊢
  split at h
  ·rename_i a;exact .inr ⟨.inl a,rfl⟩
  ·rename_i k z a
   split at h
   ·rename_i b;rw[if_pos b];exact .inr ⟨.inr (.inl ⟨_,a⟩),rfl⟩
   ·simp only[aS]at h
  ·rename_i a;exact .inr ⟨.inr (.inr (.inl a)),rfl⟩
  ·rename_i a;exact .inr ⟨.inr (.inr (.inr ⟨_,a⟩)),rfl⟩
  ·rename_i a;exact .inr ⟨.inr (.inr (.inr ⟨_,a⟩)),rfl⟩
  ·rename_i a;exact .inl ⟨.inl ⟨_,a⟩,_,rfl⟩
  ·rename_i a;exact .inl ⟨.inr ⟨_,_,a⟩,_,rfl⟩
  ·simp only[aS]at h
theorem Vn[Gl]{n:Nat}{t:ax}{v:av}{d:ay H}{f:List ap}{g i:Nat}{r:Reach}(j:kI P n t=true)(h:DataW.Trod enc P w g (fun _=>true) true t v d f)(b:a5 P w r i t v):
 aA P w (fun k=>k<w.heap.size) (bE P n t d) v:=by
 obtain⟨fuel,h⟩:=h;have hc:=uG n fuel t _ d f j h;rcases Vp hc with⟨a,u,hs⟩|⟨a,hs⟩
 ·have:∃cs,v=.agg cs:=by
   rcases a with⟨fs,a⟩|⟨m,e,a⟩
   ·simp only[a5,a]at b;obtain⟨cs,rfl,_,_⟩:=b;exact⟨cs,rfl⟩
   ·simp only[a5,a]at b;obtain⟨cs,rfl,_,_⟩:=b;exact⟨cs,rfl⟩
  obtain⟨cs,rfl⟩:=this;rw[uP hs]at hc;simpa[a6]using hc
 ·rw[rS hs]at hc;obtain⟨c,hc,l⟩:=hc;have:v=c:=by
   cases v with
   |agg cs=>rcases a with a|⟨k,a⟩|a|⟨e,a⟩<;>simp[a5,a,Cell.okWide,Cell.ok]at b
   |_=>simpa[a6]using hc
  rw[this];exact l
def ql(P:aT)(n:Nat):List ax->List (ay H)->List PV
 |t::ts,d::ds=>bE P n t d::ql P n ts ds
 |_,_=>[]
theorem A1[Gl]{n:Nat}{base:Nat}{r:Reach}:∀{ts:List ax}{vs:List av}{ds:List (ay H)}{h:List ap},(∀t∈ts,kI P n t=true)->a3 enc P w 0 (fun _=>true) true ts vs ds h->
 (∀(j:Nat) t v,ts[j]?=some t->vs[j]?=some v->a5 P w r base t v)->bn P w (fun k=>k<w.heap.size) (ql P n ts ds) vs/\ds.length=ts.length
 |[],[],[],_,_,_,_=>by simp[ql,bn]
 |t::ts,v::vs,d::ds,_,b,⟨p,q,e,f,_⟩,c=>by
  have⟨i1,i2⟩:=A1 (ts:=ts) (vs:=vs) (ds:=ds) (fun t a=>b t (be _ a)) f (fun j t v a g=>c (j+1) t v (by simpa using a) (by simpa using g));refine⟨?_,by simp[i2]⟩;simp only[ql,bn];exact⟨v,vs,rfl,Vn (b t bi) e (c 0 t v rfl rfl),i1⟩
theorem Jh{n:Nat}:∀{ts:List ax}{vs:List av}{ds:List (ay H)}{g:List ap},(∀t∈ts,kI P n t=true)->a3 enc P w 0 (fun _=>true) true ts vs ds g->
 ∀p∈ts.zip ds,∃cs,aS P w (fun k=>k<w.heap.size) (bE P n p.1 p.2) cs
 |[],[],[],_,_,_=>by simp
 |t::ts,v::vs,d::ds,_,a,⟨p,q,⟨fuel,b⟩,c,_⟩=>by
  have f:=Jh (ts:=ts) (vs:=vs) (ds:=ds) (fun t e=>a t (be _ e)) c;intro x hx;rw[b3]at hx;rcases b1.1 hx with rfl|hx
  ·exact⟨_,uG n fuel t _ d p (a t bi) b⟩
  ·exact f x hx
theorem Gs{w':a0}{f:Nat}{g:Nat->Bool}{held:Bool}:∀{c:List ax}{vs:List av}{a:List (ay H)}{b:List ap},a3 enc P w f g held c vs a b->(∀p∈b,w.sameAt w' p)->
 a3 enc P w' f g held c vs a b
 |[],[],[],_,h,_=>h
 |t::c,v::vs,d::a,_,⟨p,q,⟨n,i⟩,j,e⟩,hs=>by
  subst e;exact⟨p,q,⟨n,DataW.trod_carry n _ _ _ i fun x hx=>hs x (List.mem_append_left _ hx)⟩,Gs j fun x hx=>hs x (List.mem_append_right _ hx),rfl⟩
theorem RS[Gl]{f:FuncId}{fn:Func}{s:a1}{n:Nat}{T:ax->Prop}(u:s.vars=[])(D:∀(H:Type)(a:List (ay H)),a.length=fn.params.size->(s.fn H a).results=[.lit (.bool true)]/\(s.fn H a).args=a/\(s.fn H a).vars=[])
 (K:Kids P T)(O:∀t e,T t->P.underlying t=some (.slice e)->0<P.cellsOf e)(z:∀t∈fn.params.toList,T t)(r:∀t∈fn.params.toList,kI P n t=true){tb:ax}(J:fn.resultTypes=#[tb])(B:P.underlying tb=some .bool)
 (C:Enters P f){W:a0}{args:Array av}{a c:List (ay H)}{y:List ap}{w:Nat}(E:mb P W (fun k=>k<W.heap.size))
 (F:(∀p∈fn.params.toList.zip a,∃cs,aS P W (fun k=>k<W.heap.size) (bE P n p.1 p.2) cs)->az P f (ql P n fn.params.toList a) (.bool true))
 (N:∀(j:Nat) t v,fn.params[j]?=some t->args[j]?=some v->a5 P W .any w t v)
 (o:a4 enc P fn.params.toList s.vars false W args.toList a c y):
 Calls P f args W fun e l=>∃v,e=.returned v/\s.post enc P fn false true false false W args v l:=by
 have A:=o;obtain⟨p,q,d,h,rfl,R,S⟩:=o;rw[u]at h;have⟨i,hlen⟩:=A1 r d (fun j t v L M=>N j t v (by simpa using L) (by simpa using M));have G:c=[]/\q=[]:=by
  cases c with
  |nil=>exact⟨rfl,h⟩
  |cons g c=>exact h.elim
 obtain⟨rfl,rfl⟩:=G;have hc:=WM C (F (Jh r d)) (fun k hk=>hk) E i;refine hc.mono ?_;rintro e l ⟨m,aE,rfl,k1,k2,k3,k4⟩;refine⟨m,rfl,?_⟩;obtain⟨f1,f2,f3⟩:=D H (a++[]) (by simpa using hlen);have e1:m=.bool true:=by simpa[aA]using k4
 have I:=DataW.TrodAll.lt d;refine Ti (pa:=p) (pv:=[]) A ?_ ?_ ?_ rfl (azE k2 k3 _)
 ·intro b sp Q;rw[f1,J,e1];refine⟨[],[],⟨1,?_⟩,rfl,rfl⟩;simp[a2,B,a6]
 ·intro sp hs;rw[f2];simp only[List.append_nil]at hs⊢;exact Gs (DataW.TrodAll.respare K O z d fun p i=>hs p i) fun x hx=>aCq k2 (I x hx)
 ·intro sp hs;rw[f3,u];rfl
end
end Go.al
