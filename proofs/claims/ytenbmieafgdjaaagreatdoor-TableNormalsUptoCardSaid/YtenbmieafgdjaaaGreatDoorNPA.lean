import Derived.Test.YtenbmieafgdjaaaGreatDoorNThE
import Derived.Deep.Slices
import Derived.Test.YtenbmieafgdjaaaGreatDoorProg
import Derived.KernelRfl
import Derived.Lib.ItoaNum
import Derived.Test.YtenbmieafgdjaaaGreatDoorRows
import Derived.Lib.LaidTab
import Derived.ReadAgain
import Derived.ChangeOld
import Derived.RowKit3
import Derived.ChangeSame
import Derived.WideShapes
/- Parts of a proof. -/
set_option linter.unusedSimpArgs false
set_option linter.unusedVariables false
set_option linter.unusedSectionVars false
open Go.Proofs.Tryz
open Array renaming getElem?_eq_some_iff->am
open Bool renaming and_eq_true->ao
open Go renaming MemPlace->ap, Value->av, TypeId->ax, DataW->ay, Program->aT, World->a0, ChangeSpec->a1
open Go.DataW renaming trod->a2, TrodAll->a3, Whole->a4
open Go.Value renaming okWide->a5, cells->a6
open Go.World renaming cells?_some->a7, cell?->a8, sameAt->a9
open List renaming getElem?_eq_getElem->bb, mem_cons_of_mem->be, mem_cons_self->bi, range->bk, flatten_append->bl, map_cons->bo, range_succ->br, map_append->bv, mem_cons->b0, take_of_length_le->b1, zip_cons_cons->b2, replicate->b3, mem_range->b4, take_add->b5, sum_cons->cb
open Nat renaming succ_mul->cc
namespace Go.au
open Go.Deep
section
variable{H:Type}
def bM(P:aT):Nat->ax->ay H->PV
 |0,_,_=>.undef
 |n+1,t,d=>match P.underlying t,d with
  |some .bool,.lit (.bool b)=>.bool b
  |some (.int k),.lit (.int _ z)=>if(Lit.int k z).wf=true then .int k z else .undef
  |some .string,.lit (.string s)=>.str (s.map (·.toNat))
  |some (.slice e),.slice ds _=>.seq (ds.map (bM P n e))
  |some (.slice _),.nil=>.seq []
  |some (.struct fs),.agg ds=>.st (P.underlyingId t) ((fs.toList.zip ds).map fun p=>bM P n p.1.type p.2)
  |some (.array _ e),.agg ds=>.st (P.underlyingId t) (ds.map (bM P n e))
  |_,_=>.undef
def ym(P:aT):Nat->List Field->Bool
 |_,[]=>true
 |o,f::fs=>(f.offset==o)&&ym P (o+P.cellsOf f.type) fs
def kK(P:aT):Nat->ax->Bool
 |0,_=>false
 |n+1,t=>match P.underlying t with
  |some .bool|some (.int _)|some .string=>true
  |some (.slice e)=>kK P n e&&decide (0<P.cellsOf e)
  |some (.struct fs)=>(dH P (P.underlyingId t)==some (fs.toList.map fun f=>P.cellsOf f.type))&&ym P 0 fs.toList&&(((fs.toList.map fun f=>P.cellsOf f.type).sum)==P.cellsOf t)&&fs.toList.all fun f=>kK P n f.type
  |some (.array m e)=>(dH P (P.underlyingId t)==some (b3 m (P.cellsOf e)))&&(m*P.cellsOf e==P.cellsOf t)&&kK P n e
  |_=>false
variable{enc:ax×av->H}{P:aT}{w:a0}{base:Nat}{held:Bool}
theorem Ls{n k:Nat}{aa:Nat->Prop}(j:∀t cs d s,kK P n t=true->a2 enc P w base (fun _=>true) held k t cs=some (d,s)->aV P w aa (bM P n t d) cs):
 ∀(fs:List Field)(a:List (ay H×List ap))(o:Nat)(cs:List av),ym P o fs=true->a.length=fs.length->(∀f∈fs,kK P n f.type=true)->o+(fs.map fun f=>P.cellsOf f.type).sum<=cs.length->
  (∀(i:Nat)(f:Field),fs[i]?=some f->a2 enc P w base (fun _=>true) held k f.type ((cs.drop f.offset).take (P.cellsOf f.type))=a[i]?)->
  bc P w aa (fs.map fun f=>P.cellsOf f.type) ((fs.zip (a.map (·.1))).map fun p=>bM P n p.1.type p.2) (fs.map fun f=>(cs.drop f.offset).take (P.cellsOf f.type))/\
   (fs.map fun f=>(cs.drop f.offset).take (P.cellsOf f.type)).flatten=(cs.drop o).take (fs.map fun f=>P.cellsOf f.type).sum
 |[],a,o,cs,_,hl,_,_,_=>by
  have:a=[]:=by simpa using hl
  subst this;simp[bc]
 |f::fs,[],o,cs,_,hl,_,_,_=>by simp at hl
 |f::fs,x::a,o,cs,b,hl,e,hlen,hx=>by
  simp only[ym,ao,beq_iff_eq]at b;obtain⟨b,r⟩:=b;simp only[bo,cb]at hlen;have h:=hx 0 f rfl;simp only[List.getElem?_cons_zero]at h;have l:=j _ _ x.1 x.2 (e f bi) h;have⟨m,q⟩:=Ls j fs a (o+P.cellsOf f.type) cs r (by simpa using hl) (fun g c=>e g (be _ c)) (by omega) (fun i g c=>by have:=hx (i+1) g (by simpa using c);simpa using this);refine⟨?_,?_⟩
  ·simp only[bo,b2,bc];exact⟨_,_,rfl,l,by simp[b];omega,m⟩
  ·simp only[bo,List.flatten_cons,cb,q,b];rw[<-List.drop_drop,b5]
theorem Ak{ai len:Nat}{aa:Nat->Prop}{f:Nat->PV}{g:Nat->List av}:∀{l:List Nat},(∀i∈l,aV P w aa (f i) (g i)/\(g i).length=ai)->bc P w aa (b3 l.length ai) (l.map f) (l.map g)
 |[],_=>by simp[bc]
 |a::l,h=>by
  simp only[List.length_cons,List.replicate_succ,bo,bc];exact⟨_,_,rfl,(h a bi).1,(h a bi).2,Ak (len:=len) fun i hi=>h i (be _ hi)⟩
theorem trod_array{m:Nat}{e t:ax}{b:Nat}{cs:List av}{x:ay H×List ap}{d:Nat->Bool}(g:P.underlying t=some (.array m e))(h:a2 enc P w base d held b t cs=some x):
 ∃(a:List (ay H×List ap))(n:Nat),b=n+1/\x=(.agg (a.map (·.1)),a.flatMap (·.2))/\cs.length=P.cellsOf t/\a.length=m/\
  ∀i,i<m->a2 enc P w base d held n e ((cs.drop (i*P.cellsOf e)).take (P.cellsOf e))=a[i]?:=by
 cases b with
 |zero=>simp[a2]at h
 |succ n=>
  unfold a2 at h;rw[g]at h
  split at h<;>simp_all
  obtain⟨hl,a,c,f⟩:=h;exact⟨a,f.symm,by simpa using mapM_some_length c,fun i hi=>mapM_some_get c i i (by simp[hi])⟩
theorem Gy{α:Type}{cs:List α}{ai:Nat}:∀m,((bk m).map fun i=>(cs.drop (i*ai)).take ai).flatten=cs.take (m*ai)
 |0=>by simp
 |m+1=>by
  rw[br,bv,bl,Gy m,cc,b5];simp
theorem Br{V:Nat->List av}{ai:Nat}:∀(len:Nat),(∀i,i<len->(V i).length=ai)->((bk len).map V).flatten.length=len*ai
 |0,_=>by simp
 |len+1,h=>by
  rw[br,bv,bl,List.length_append,Br len fun i hi=>h i (by omega),cc];simp[h len (by omega)]
theorem G8{V:Nat->List av}{ai b o:Nat}:∀(len:Nat),(∀i,i<len->(V i).length=ai)->(∀i,i<len->∀j,j<ai->w.cell? ⟨b,o+(i*ai+j),none⟩=(V i)[j]?)->gB w b o ((bk len).map V).flatten
 |0,_,_=>by intro i hi;simp at hi
 |len+1,h,hc=>by
  intro i hi;have hl:=Br (V:=V) (ai:=ai) len fun i hi=>h i (by omega);have a:=G8 (V:=V) (ai:=ai) (b:=b) (o:=o) len (fun i hi=>h i (by omega)) (fun i hi=>hc i (by omega));have e:((bk (len+1)).map V).flatten=((bk len).map V).flatten++V len:=by
   rw[br,bv,bl];simp
  have d:i<len*ai+ai:=by
   have:=Br (V:=V) (ai:=ai) (len+1) h;rw[cc]at this;omega
  rw[<-bb hi,e]
  by_cases c:i<len*ai
  ·rw[List.getElem?_append_left (by omega),bb (by omega)];exact a i (by omega)
  ·rw[List.getElem?_append_right (by omega),hl];have:=hc len (by omega) (i-len*ai) (by omega);rw[<-this];congr 3;omega
theorem uy:∀(n:Nat)(J:Nat)(t:ax)(cs:List av)(d:ay H)(r:List ap),kK P n t=true->a2 enc P w base (fun _=>true) held J t cs=some (d,r)->
 aV P w (fun k=>k<w.heap.size) (bM P n t d) cs
 |0,_,_,_,_,_,h,_=>by simp[kK]at h
 |n+1,J,t,cs,d,r,h,p=>by
  simp only[kK]at h
  split at h
  ·rename_i o;obtain⟨b,rfl,hx⟩:=DataW.trod_bool o p;cases hx;simp[bM,o,aV]
  ·rename_i k o;obtain⟨z,rfl,hx,E⟩:=DataW.trod_int o p;cases hx;simp[bM,o,E,aV]
  ·rename_i o;obtain⟨s,rfl,hx,_⟩:=DataW.trod_string o p;cases hx;simp[bM,o,aV]
  ·rename_i e o;simp only[ao,decide_eq_true_eq]at h;obtain⟨v,B⟩:=h;rcases open_slice o p with⟨rfl,hx⟩|⟨a,len,cap,m,k,D,S,rfl,ac,hl,ae,O,hx,U⟩
   ·cases hx;simp[bM,o,aV]
   cases hx;simp only[if_true]at O;subst O;obtain⟨V,q⟩:=choose_lt U;have R:a.spot=none\/m=0:=by
    by_cases E:m=0
    ·exact .inr E
    left;obtain⟨c1,_⟩:=q 0 (by omega);obtain⟨_,c2,c3⟩:=a7 c1;have c4:=c3 0 B;rw[bb (by omega)]at c4;simp only[Addr.add,Nat.zero_mul,if_true]at c4;unfold a8 at c4
    split at c4
    ·split at c4
     ·cases c4
     ·rename_i hs;simpa using hs
    ·cases c4
   have M:∀i,i<m->∀j,j<P.cellsOf e->w.cell? ⟨a.block,a.off+(i*P.cellsOf e+j),none⟩=(V i)[j]?:=by
    intro i hi j X;have hs:a.spot=none:=R.resolve_right (by omega);obtain⟨_,_,c3⟩:=a7 (q i hi).1;have:=c3 j X;rw[add_add]at this;rw[<-this];obtain⟨F,G,I⟩:=a;simp only at hs;subst hs;unfold Addr.add;split<;>simp_all
   have A:∀i,i<m->(V i).length=P.cellsOf e:=fun i hi=>(a7 (q i hi).1).2.1;simp only[bM,o,aV];right;obtain⟨F,G,I⟩:=a;refine⟨F,G,m,P.cellsOf e,(bk len).map V,?_,?_,?_,by simpa using hl,I,R,by simp⟩
   ·have:=Ak (P:=P) (w:=w) (len:=len) (ai:=P.cellsOf e) (aa:=fun k=>k<w.heap.size) (f:=fun i=>bM P n e (D i)) (g:=V) (l:=bk len) (fun i hi=>by
     have hi:i<m:=by have:=b4.1 hi;omega
     exact⟨uy n k e (V i) (D i) (S i) v (q i hi).2,A i hi⟩)
    simpa[Function.comp_def]using this
   ·intro Y;have ab:0<len:=by
     rcases Nat.eq_zero_or_pos len with h|h
     ·subst h;simp at Y
     ·exact h
    have c:=M 0 (by omega) 0 B;rw[bb (by rw[A 0 (by omega)];exact B)]at c;unfold a8 at c
    split at c
    ·rename_i y;exact(am.1 y).1
    ·cases c
   ·exact G8 len (fun i hi=>A i (by omega)) (fun i hi=>M i (by omega))
  ·rename_i fs o;simp only[ao,beq_iff_eq,List.all_eq_true]at h;obtain⟨⟨⟨u,K⟩,L⟩,T⟩:=h;obtain⟨xs,k,rfl,hx,hlen,C,hf⟩:=DataW.trod_struct o p;cases hx;have⟨g1,g2⟩:=Ls (aa:=fun k=>k<w.heap.size) (fun t cs d r Z y=>uy n k t cs d r Z y) fs.toList xs 0 cs K (by simpa using C) T (by omega) (fun i f hi=>hf i f (by simpa using hi));simp only[bM,o,aV];refine⟨_,_,u,g1,?_⟩;rw[g2,List.drop_zero,b1 (by omega)]
  ·rename_i m e o;simp only[ao,beq_iff_eq]at h;obtain⟨⟨u,K⟩,L⟩:=h;obtain⟨xs,k,rfl,hx,hlen,C,hf⟩:=trod_array o p;cases hx;have Q:=Ak (P:=P) (w:=w) (len:=m) (ai:=P.cellsOf e) (aa:=fun k=>k<w.heap.size) (f:=fun i=>match xs[i]? with
     |some x=>bM P n e x.1
     |none=>.undef) (g:=fun i=>(cs.drop (i*P.cellsOf e)).take (P.cellsOf e)) (l:=bk m) (fun i hi=>by
      have hi:i<m:=b4.1 hi;have N:=hf i hi;rw[bb (by omega)]at N⊢;refine⟨uy n k e _ xs[i].1 xs[i].2 L N,?_⟩;have:(i+1)*P.cellsOf e<=m*P.cellsOf e:=Nat.mul_le_mul_right _ hi;rw[cc]at this;simp;omega)
   have v:((bk m).map fun i=>match xs[i]? with
    |some x=>bM P n e x.1
    |none=>.undef)=(xs.map (·.1)).map (bM P n e):=by
    apply List.ext_getElem
    ·simp[C]
    ·intro i W ad;simp at W;simp[bb (show i<xs.length by omega)]
   rw[v,List.length_range]at Q;simp only[bM,o,aV];refine⟨_,_,u,Q,?_⟩;rw[Gy,b1 (by omega)]
  ·cases h
end
open Go.Proofs
def Ds:Array av:=(Lib.pow10Tab.map fun z=>Value.int .u64 z).toArray
def aAq:Nat->Option (Array av)
 |1=>some Ds
 |_=>none
instance X3:Gl:=⟨fun _=>.undef,5,aAq,fun u=>bif Nat.beq u 226 then some 227 else none⟩
@[simp] theorem ki3:kindOf prog 3=.leaf:=by kernel_rfl
@[simp] theorem Dw:prog.underlying 3=some (.int .i64):=by kernel_rfl
@[simp] theorem tz3:cK prog 3=some (.int .i64 (0)):=by kernel_rfl
@[simp] theorem ki4:kindOf prog 4=.leaf:=by kernel_rfl
@[simp] theorem ib4:pU prog 4=true:=by kernel_rfl
@[simp] theorem tz4:cK prog 4=some (.bool false):=by kernel_rfl
@[simp] theorem tz5:cK prog 5=some (.int .u8 (0)):=by kernel_rfl
@[simp] theorem ki9:kindOf prog 9=.leaf:=by kernel_rfl
@[simp] theorem Dy:prog.underlying 9=some .string:=by kernel_rfl
@[simp] theorem at9:ib prog 9=true:=by kernel_rfl
@[simp] theorem tz9:cK prog 9=some (.str []):=by kernel_rfl
@[simp] theorem aF8:kindOf prog 22=.leaf:=by kernel_rfl
@[simp] theorem aCv:prog.underlying 22=some (.slice 61):=by kernel_rfl
@[simp] theorem aDy:ib prog 22=true:=by kernel_rfl
@[simp] theorem aEB:cN prog 22=some 2:=by kernel_rfl
@[simp] theorem aE6:dQ prog 22=61:=by kernel_rfl
@[simp] theorem aIB:cK prog 22=some (.aG):=by kernel_rfl
@[simp] theorem aGb:kindOf prog 23=.leaf:=by kernel_rfl
@[simp] theorem aCw:prog.underlying 23=some (.slice 110):=by kernel_rfl
@[simp] theorem aDE:ib prog 23=true:=by kernel_rfl
@[simp] theorem aEE:cN prog 23=some 4:=by kernel_rfl
@[simp] theorem aE8:dQ prog 23=110:=by kernel_rfl
@[simp] theorem aGc:kindOf prog 24=.leaf:=by kernel_rfl
@[simp] theorem aCB:prog.underlying 24=some (.slice 49):=by kernel_rfl
@[simp] theorem aDH:ib prog 24=true:=by kernel_rfl
@[simp] theorem aEJ:cN prog 24=some 3:=by kernel_rfl
@[simp] theorem aFa:dQ prog 24=49:=by kernel_rfl
@[simp] theorem aGf:kindOf prog 26=.agg 25:=by kernel_rfl
@[simp] theorem aHH:fZ prog 26=some (25,4):=by kernel_rfl
@[simp] theorem aII:cK prog 26=some (.st 25 [.aG,.int .i64 (0),.aG,.aG]):=by kernel_rfl
@[simp] theorem aEL:cN prog 31=some 2:=by kernel_rfl
@[simp] theorem aFc:dQ prog 31=47:=by kernel_rfl
@[simp] theorem aGo:kindOf prog 32=.leaf:=by kernel_rfl
@[simp] theorem aIM:cK prog 32=some (.int .i64 (0)):=by kernel_rfl
@[simp] theorem aGp:kindOf prog 35=.leaf:=by kernel_rfl
@[simp] theorem aDJ:ib prog 35=true:=by kernel_rfl
@[simp] theorem aEN:cN prog 35=some 4:=by kernel_rfl
@[simp] theorem aFf:dQ prog 35=112:=by kernel_rfl
@[simp] theorem aGq:kindOf prog 36=.leaf:=by kernel_rfl
@[simp] theorem aDK:ib prog 36=true:=by kernel_rfl
@[simp] theorem aEO:cN prog 36=some 3:=by kernel_rfl
@[simp] theorem aFg:dQ prog 36=152:=by kernel_rfl
@[simp] theorem aGr:kindOf prog 38=.agg 37:=by kernel_rfl
@[simp] theorem aHI:fZ prog 38=some (37,4):=by kernel_rfl
@[simp] theorem aIN:cK prog 38=some (.st 37 [.aG,.int .i64 (0),.aG,.aG]):=by kernel_rfl
@[simp] theorem aGu:kindOf prog 45=.leaf:=by kernel_rfl
@[simp] theorem Dx:prog.underlying 45=some .string:=by kernel_rfl
@[simp] theorem aIP:cK prog 45=some (.str []):=by kernel_rfl
@[simp] theorem aGv:kindOf prog 47=.agg 46:=by kernel_rfl
@[simp] theorem aHJ:fZ prog 47=some (46,2):=by kernel_rfl
@[simp] theorem aIQ:cK prog 47=some (.st 46 [.str [],.str []]):=by kernel_rfl
@[simp] theorem aGw:kindOf prog 49=.agg 48:=by kernel_rfl
@[simp] theorem aHK:fZ prog 49=some (48,2):=by kernel_rfl
@[simp] theorem aIR:cK prog 49=some (.st 48 [.str [],.st 46 [.str [],.str []]]):=by kernel_rfl
@[simp] theorem aGx:kindOf prog 61=.agg 60:=by kernel_rfl
@[simp] theorem aHL:fZ prog 61=some (60,2):=by kernel_rfl
@[simp] theorem aIT:cK prog 61=some (.st 60 [.int .i64 (0),.int .i64 (0)]):=by kernel_rfl
@[simp] theorem aDL:ib prog 82=true:=by kernel_rfl
@[simp] theorem aEP:cN prog 82=some 1:=by kernel_rfl
@[simp] theorem aFh:dQ prog 82=9:=by kernel_rfl
@[simp] theorem aFT:kindOf prog 110=.agg 109:=by kernel_rfl
@[simp] theorem aHz:fZ prog 110=some (109,4):=by kernel_rfl
@[simp] theorem aHV:cK prog 110=some (.st 109 [.str [],.int .i64 (0),.str [],.str []]):=by kernel_rfl
@[simp] theorem aFU:kindOf prog 112=.agg 109:=by kernel_rfl
@[simp] theorem aHA:fZ prog 112=some (109,4):=by kernel_rfl
@[simp] theorem aHW:cK prog 112=some (.st 109 [.str [],.int .i64 (0),.str [],.str []]):=by kernel_rfl
@[simp] theorem aFV:kindOf prog 128=.leaf:=by kernel_rfl
@[simp] theorem aEl:cN prog 128=some 1:=by kernel_rfl
@[simp] theorem aE2:dQ prog 128=308:=by kernel_rfl
@[simp] theorem aFX:kindOf prog 130=.agg 129:=by kernel_rfl
@[simp] theorem aHB:fZ prog 130=some (129,2):=by kernel_rfl
@[simp] theorem aHY:cK prog 130=some (.st 129 [.int .i64 (0),.aG]):=by kernel_rfl
@[simp] theorem aFY:kindOf prog 132=.agg 131:=by kernel_rfl
@[simp] theorem aHC:fZ prog 132=some (131,2):=by kernel_rfl
@[simp] theorem aHZ:cK prog 132=some (.st 131 [.st 129 [.int .i64 (0),.aG],.st 129 [.int .i64 (0),.aG]]):=by kernel_rfl
@[simp] theorem aFZ:kindOf prog 134=.agg 133:=by kernel_rfl
@[simp] theorem aDs:gM prog 134=some (133,2):=by kernel_rfl
@[simp] theorem aH0:cK prog 134=some (.st 133 [.st 131 [.st 129 [.int .i64 (0),.aG],.st 129 [.int .i64 (0),.aG]],.st 131 [.st 129 [.int .i64 (0),.aG],.st 129 [.int .i64 (0),.aG]]]):=by kernel_rfl
@[simp] theorem aF0:kindOf prog 152=.agg 48:=by kernel_rfl
@[simp] theorem aHD:fZ prog 152=some (48,2):=by kernel_rfl
@[simp] theorem aIk:cK prog 152=some (.st 48 [.str [],.st 46 [.str [],.str []]]):=by kernel_rfl
@[simp] theorem aF1:kindOf prog 156=.leaf:=by kernel_rfl
@[simp] theorem aDw:ib prog 156=true:=by kernel_rfl
@[simp] theorem aEu:cN prog 156=some 1:=by kernel_rfl
@[simp] theorem aE3:dQ prog 156=3:=by kernel_rfl
@[simp] theorem aF3:kindOf prog 164=.agg 164:=by kernel_rfl
@[simp] theorem aDt:gM prog 164=some (164,2):=by kernel_rfl
@[simp] theorem aIl:cK prog 164=some (.st 164 [.st 133 [.st 131 [.st 129 [.int .i64 (0),.aG],.st 129 [.int .i64 (0),.aG]],.st 131 [.st 129 [.int .i64 (0),.aG],.st 129 [.int .i64 (0),.aG]]],.st 133 [.st 131 [.st 129 [.int .i64 (0),.aG],.st 129 [.int .i64 (0),.aG]],.st 131 [.st 129 [.int .i64 (0),.aG],.st 129 [.int .i64 (0),.aG]]]]):=by kernel_rfl
@[simp] theorem aF6:kindOf prog 170=.agg 169:=by kernel_rfl
@[simp] theorem aHE:fZ prog 170=some (169,2):=by kernel_rfl
@[simp] theorem aIm:cK prog 170=some (.st 169 [.bool false,.aG]):=by kernel_rfl
@[simp] theorem aF7:kindOf prog 180=.leaf:=by kernel_rfl
@[simp] theorem aEA:cN prog 180=some 1:=by kernel_rfl
@[simp] theorem aE5:dQ prog 180=45:=by kernel_rfl
@[simp] theorem aF9:kindOf prog 225=.leaf:=by kernel_rfl
@[simp] theorem aEC:cN prog 225=some 1:=by kernel_rfl
@[simp] theorem aE7:dQ prog 225=5:=by kernel_rfl
@[simp] theorem aGa:kindOf prog 227=.agg 226:=by kernel_rfl
@[simp] theorem aHG:fZ prog 227=some (226,2):=by kernel_rfl
@[simp] theorem aIE:cK prog 227=some (.st 226 [.dD,.aG]):=by kernel_rfl
@[simp] theorem aEK:cN prog 248=some 1:=by kernel_rfl
@[simp] theorem aFb:dQ prog 248=32:=by kernel_rfl
@[simp] theorem aGg:kindOf prog 280=.agg 280:=by kernel_rfl
@[simp] theorem aIJ:cK prog 280=some (.st 280 [.str [],.str []]):=by kernel_rfl
@[simp] theorem aGn:kindOf prog 308=.leaf:=by kernel_rfl
@[simp] theorem aIL:cK prog 308=some (.int .u64 (0)):=by kernel_rfl
@[simp] theorem aEM:cN prog 318=some 1:=by kernel_rfl
@[simp] theorem aFe:dQ prog 318=22:=by kernel_rfl
@[simp] theorem aGs:kindOf prog 382=.agg 381:=by kernel_rfl
@[simp] theorem aDv:gM prog 382=some (381,256):=by kernel_rfl
@[simp] theorem aBz:dH prog 25=some [1,1,1,1]:=by kernel_rfl
@[simp] theorem aHS:dH prog 37=some [1,1,1,1]:=by kernel_rfl
@[simp] theorem aBF:dH prog 46=some [1,1]:=by kernel_rfl
@[simp] theorem aBL:dH prog 48=some [1,2]:=by kernel_rfl
@[simp] theorem aBP:dH prog 60=some [1,1]:=by kernel_rfl
@[simp] theorem aBn:dH prog 109=some [1,1,1,1]:=by kernel_rfl
@[simp] theorem aHM:dH prog 129=some [1,1]:=by kernel_rfl
@[simp] theorem aHN:dH prog 131=some [2,2]:=by kernel_rfl
@[simp] theorem aHO:dH prog 133=some [4,4]:=by kernel_rfl
@[simp] theorem aHP:dH prog 164=some [8,8]:=by kernel_rfl
@[simp] theorem aHQ:dH prog 169=some [1,1]:=by kernel_rfl
@[simp] theorem aHR:dH prog 280=some [1,1]:=by kernel_rfl
set_option maxRecDepth 100000
section
variable{H:Type}{w:a0}{aa:Nat->Prop}
theorem DX{P:aT}:∀{l:List Nat}{d:List PV}{b:List (List av)},bc P w aa l d b->∀e∈d,∃c,aV P w aa e c
 |_,[],_,_=>fun e a=>by cases a
 |[],v::vs,_,h=>by simp[bc]at h
 |n::i,v::vs,b,h=>by
  simp only[bc]at h;obtain⟨c,cs,_,f,_,g⟩:=h;intro e a;rcases b0.1 a with rfl|a
  ·exact⟨c,f⟩
  ·exact DX g e a
theorem vJ{n:Nat}(d:ay H)(c)(h:aV prog w aa (bM prog (n+1) 3 d) c):∃z:Int,bM prog (n+1) 3 d=.int .i64 z:=by
 cases d with
 |lit l=>
  cases l with
  |int k z=>
   simp only[bM,Dw]at h⊢
   split at h
   ·rename_i a;rw[if_pos a];exact⟨_,rfl⟩
   ·simp only[aV]at h
  |_=>simp only[bM,Dw,aV]at h
 |_=>simp only[bM,Dw,aV]at h
end
theorem Gf{P:aT}{W:a0}{name:String}{d:ay Unit}:∀{l:List (String×ay Unit)}{b:List ap},DataW.LaidVars P W l b->(name,d)∈l->
 ∃g t cs a p,P.globalNamed name=some g/\(P.globals[g]?).map (·.type)=some t/\W.var? P name=some cs/\a2 (fun _=>()) P W 0 (fun _=>true) false a t cs.toList=some (d,p)/\∀x∈MemPlace.row ⟨g,0,none⟩ cs.size,x∈b
 |[],_,_,h=>by cases h
 |(n,d0)::r,b,h,hm=>by
  obtain⟨g,t,cs,a,p,q,j,k,m,o,s,rfl⟩:=h;rcases b0.1 hm with e|hm
  ·cases e;exact⟨g,t,cs,a,p,j,k,m,o,fun x hx=>by simp[hx]⟩
  ·obtain⟨i,v,c,f,u,k1,k2,k3,k4,k5⟩:=Gf s hm;exact⟨i,v,c,f,u,k1,k2,k3,k4,fun x hx=>by simp[k5 x hx]⟩
open Go.Proofs Go.Proofs.YtenbmieafgdjaaaGreatDoor
theorem Ii:prog.globalNamed "internal/strconv.uint64pow10" =some 1:=by kernel_rfl
theorem R7:((Rows.tableRacksUptoRow.laid).filter fun x=>x.2.handleName?.isSome)=[]:=by kernel_rfl
theorem aAj:(prog.globals[1]?).map (·.type)=some 396:=by kernel_rfl
theorem aAk:prog.underlying 396=some (.array 20 308):=by kernel_rfl
theorem aAh:prog.underlying 308=some (.int .u64):=by kernel_rfl
theorem aAf:prog.cellsOf 308=1:=by kernel_rfl
theorem aAg:prog.cellsOf 396=20:=by kernel_rfl
theorem X4{W:a0}(h:laidMetH prog Rows.tableRacksUptoRow.laid W):mg prog W (fun k=>k<W.heap.size):=by
 unfold laidMetH at h;rw[R7]at h;obtain⟨n,j,_,l⟩:=h;obtain⟨g,t,cs,fuel,p,k1,k2,k3,k4,k5⟩:=Gf (name:= "internal/strconv.uint64pow10") (d:=Lib.tabData .u64 Lib.pow10Tab) j (by
  show _∈[_,_,_,_,_,_,_];exact be _ (be _ bi))
 rw[Ii]at k1;cases k1;rw[aAj]at k2;cases k2;have f:=Lib.cells_of_tab aAk aAh aAf aAg k4;have e:cs=Ds:=by rw[Ds,<-f]
 have i:0<cs.size:=by rw[e];decide
 obtain⟨⟨c,T,b⟩,_⟩:=l 1 0 (k5 _ (by simp[MemPlace.row];exact i));refine⟨fun g=>by simp[aw,Gl.g],fun g m a=>?_⟩
 match g,a with
 |1,a=>
  cases a;refine⟨(am.1 b).1,T,?_⟩;simp only[World.var?,Ii,Option.bind_some,b,Option.some.injEq]at k3;rw[b,k3,e]
section
variable[Gl]{P:aT}
theorem VX{f:FuncId}{args:List PV}{v:PV}(g:Enters P f)(h:az P f args v){w:a0}{aa:Nat->Prop}{a:List av}(d:∀k,aa k->k<w.heap.size)(i:mg P w aa)(c:bg P w aa args a):
 Calls P f a.toArray w fun e w'=>∃b,∃aD:Nat->Prop,e=.returned b/\w.heap.size<=w'.heap.size/\(∀k,k<w.heap.size->w'.heap[k]?=w.heap[k]?)/\(w'.os=w.os/\w'.output=w.output)/\aw P w' aD v b:=by
 rcases h with h|h
 ·refine(h.2 w aa a d i c).mono ?_;rintro e w' ⟨b,aD,k1,_,_,_,k5,k6,j,k7⟩;exact⟨b,aD,k1,k5,k6,j,k7⟩
 ·obtain⟨b,k1,_⟩:=h w aa a c;rw[g a.toArray w]at k1;cases k1
theorem ayH{w w':a0}(h:∀k,k<w.heap.size->w'.heap[k]?=w.heap[k]?)(a:w'.os=w.os/\w'.output=w.output)(b:ap->Prop):w.keptBut w' b:=by
 refine⟨a.1,a.2,fun i hi=>?_⟩;rw[h i hi];cases w.heap[i]? with
 |none=>rfl
 |some o=>cases o<;>first|exact⟨rfl,rfl,rfl,fun _ _=>rfl⟩|exact .inr ⟨rfl,rfl⟩|rfl
theorem aAH{w w':a0}(h:∀k,k<w.heap.size->w'.heap[k]?=w.heap[k]?){p:ap}(a:p.block<w.heap.size):w.sameAt w' p:=by
 cases p with
 |cell b o=>simp only[a9,a8];rw[h b a]
 |map b=>simp only[a9];rw[h b a]
theorem Sv{H:Type}{e:ax×av->H}{f:Func}{s:a1}{apart fresh handsOn:Bool}{W c:a0}{args:Array av}{v:av}{d g:List (ay H)}{a pa pv:List ap}
 (j:a4 e P f.params.toList s.vars apart W args.toList d g a)
 (o:∀(b:Nat)(sp:Nat->Bool)(m:Bool),a3 e P c b sp m f.resultTypes.toList (v.resultList f.resultTypes.size) (s.fn H (d++g)).results [])
 (l:∀sp:Nat->Bool,(∀p∈a,sp p.block=true)->a3 e P c 0 sp true f.params.toList args.toList (s.fn H (d++g)).args pa)
 (q:∀sp:Nat->Bool,(∀p∈a,sp p.block=true)->DataW.TrodVars e P c sp s.vars (s.fn H (d++g)).vars pv)
 (n:a=pa++pv)(hk:W.keptBut c (·∈a)):s.post e P f apart fresh handsOn false W args v c:=by
 have k:∀p∈a,(fun b=>decide (b<W.heap.size)) p.block=true:=fun p i=>by simpa using j.lt p i
 refine⟨d,g,a,[],pa,pv,j,o _ _ _,l _ k,q _ k,World.keptBut_mono (fun p i=>⟨i,?_⟩) hk,fun h=>by cases h⟩;rw[n,List.mem_append]at i;exact Or.inr i
end
section
variable{H:Type}{enc:ax×av->H}{P:aT}{w:a0}
theorem UC{n:Nat}{t:ax}{d:ay H}{cs:List av}{aa:Nat->Prop}(h:aV P w aa (bM P n t d) cs):
 (((∃fs,P.underlying t=some (.struct fs))\/∃m e,P.underlying t=some (.array m e))/\∃u,aL (bM P n t d)=.agg u)\/((P.underlying t=some .bool\/(∃k,P.underlying t=some (.int k))\/P.underlying t=some .string\/∃e,P.underlying t=some (.slice e))/\aL (bM P n t d)=.leaf):=by
 cases n with
 |zero=>simp only[bM,aV]at h
 |succ n=>
  unfold bM at h⊢
  split at h
  ·rename_i a;exact .inr ⟨.inl a,rfl⟩
  ·rename_i k z a
   split at h
   ·rename_i b;rw[if_pos b];exact .inr ⟨.inr (.inl ⟨_,a⟩),rfl⟩
   ·simp only[aV]at h
  ·rename_i a;exact .inr ⟨.inr (.inr (.inl a)),rfl⟩
  ·rename_i a;exact .inr ⟨.inr (.inr (.inr ⟨_,a⟩)),rfl⟩
  ·rename_i a;exact .inr ⟨.inr (.inr (.inr ⟨_,a⟩)),rfl⟩
  ·rename_i a;exact .inl ⟨.inl ⟨_,a⟩,_,rfl⟩
  ·rename_i a;exact .inl ⟨.inr ⟨_,_,a⟩,_,rfl⟩
  ·simp only[aV]at h
theorem UA[Gl]{n:Nat}{t:ax}{v:av}{d:ay H}{f:List ap}{g i:Nat}{r:Reach}(j:kK P n t=true)(h:DataW.Trod enc P w g (fun _=>true) true t v d f)(b:a5 P w r i t v):
 aw P w (fun k=>k<w.heap.size) (bM P n t d) v:=by
 obtain⟨fuel,h⟩:=h;have hc:=uy n fuel t _ d f j h;rcases UC hc with⟨a,u,hs⟩|⟨a,hs⟩
 ·have:∃cs,v=.agg cs:=by
   rcases a with⟨fs,a⟩|⟨m,e,a⟩
   ·simp only[a5,a]at b;obtain⟨cs,rfl,_,_⟩:=b;exact⟨cs,rfl⟩
   ·simp only[a5,a]at b;obtain⟨cs,rfl,_,_⟩:=b;exact⟨cs,rfl⟩
  obtain⟨cs,rfl⟩:=this;rw[uJ hs]at hc;simpa[a6]using hc
 ·rw[rR hs]at hc;obtain⟨c,hc,l⟩:=hc;have:v=c:=by
   cases v with
   |agg cs=>rcases a with a|⟨k,a⟩|a|⟨e,a⟩<;>simp[a5,a,Cell.okWide,Cell.ok]at b
   |_=>simpa[a6]using hc
  rw[this];exact l
def qm(P:aT)(n:Nat):List ax->List (ay H)->List PV
 |t::ts,d::ds=>bM P n t d::qm P n ts ds
 |_,_=>[]
theorem AM[Gl]{n:Nat}{base:Nat}{r:Reach}:∀{ts:List ax}{vs:List av}{ds:List (ay H)}{h:List ap},(∀t∈ts,kK P n t=true)->a3 enc P w 0 (fun _=>true) true ts vs ds h->
 (∀(j:Nat) t v,ts[j]?=some t->vs[j]?=some v->a5 P w r base t v)->bg P w (fun k=>k<w.heap.size) (qm P n ts ds) vs/\ds.length=ts.length
 |[],[],[],_,_,_,_=>by simp[qm,bg]
 |t::ts,v::vs,d::ds,_,b,⟨p,q,e,f,_⟩,c=>by
  have⟨i1,i2⟩:=AM (ts:=ts) (vs:=vs) (ds:=ds) (fun t a=>b t (be _ a)) f (fun j t v a g=>c (j+1) t v (by simpa using a) (by simpa using g));refine⟨?_,by simp[i2]⟩;simp only[qm,bg];exact⟨v,vs,rfl,UA (b t bi) e (c 0 t v rfl rfl),i1⟩
theorem IZ{n:Nat}:∀{ts:List ax}{vs:List av}{ds:List (ay H)}{g:List ap},(∀t∈ts,kK P n t=true)->a3 enc P w 0 (fun _=>true) true ts vs ds g->
 ∀p∈ts.zip ds,∃cs,aV P w (fun k=>k<w.heap.size) (bM P n p.1 p.2) cs
 |[],[],[],_,_,_=>by simp
 |t::ts,v::vs,d::ds,_,a,⟨p,q,⟨fuel,b⟩,c,_⟩=>by
  have f:=IZ (ts:=ts) (vs:=vs) (ds:=ds) (fun t e=>a t (be _ e)) c;intro x hx;rw[b2]at hx;rcases b0.1 hx with rfl|hx
  ·exact⟨_,uy n fuel t _ d p (a t bi) b⟩
  ·exact f x hx
theorem F9{w':a0}{f:Nat}{g:Nat->Bool}{held:Bool}:∀{c:List ax}{vs:List av}{a:List (ay H)}{b:List ap},a3 enc P w f g held c vs a b->(∀p∈b,w.sameAt w' p)->
 a3 enc P w' f g held c vs a b
 |[],[],[],_,h,_=>h
 |t::c,v::vs,d::a,_,⟨p,q,⟨n,i⟩,j,e⟩,hs=>by
  subst e;exact⟨p,q,⟨n,DataW.trod_carry n _ _ _ i fun x hx=>hs x (List.mem_append_left _ hx)⟩,F9 j fun x hx=>hs x (List.mem_append_right _ hx),rfl⟩
theorem Q7[Gl]{f:FuncId}{fn:Func}{s:a1}{n:Nat}{T:ax->Prop}(u:s.vars=[])(D:∀(H:Type)(a:List (ay H)),a.length=fn.params.size->(s.fn H a).results=[.lit (.bool true)]/\(s.fn H a).args=a/\(s.fn H a).vars=[])
 (K:Kids P T)(O:∀t e,T t->P.underlying t=some (.slice e)->0<P.cellsOf e)(z:∀t∈fn.params.toList,T t)(r:∀t∈fn.params.toList,kK P n t=true){tb:ax}(J:fn.resultTypes=#[tb])(B:P.underlying tb=some .bool)
 (C:Enters P f){W:a0}{args:Array av}{a c:List (ay H)}{y:List ap}{w:Nat}(E:mg P W (fun k=>k<W.heap.size))
 (F:(∀p∈fn.params.toList.zip a,∃cs,aV P W (fun k=>k<W.heap.size) (bM P n p.1 p.2) cs)->az P f (qm P n fn.params.toList a) (.bool true))
 (N:∀(j:Nat) t v,fn.params[j]?=some t->args[j]?=some v->a5 P W .any w t v)
 (o:a4 enc P fn.params.toList s.vars false W args.toList a c y):
 Calls P f args W fun e l=>∃v,e=.returned v/\s.post enc P fn false true false false W args v l:=by
 have A:=o;obtain⟨p,q,d,h,rfl,R,S⟩:=o;rw[u]at h;have⟨i,hlen⟩:=AM r d (fun j t v L M=>N j t v (by simpa using L) (by simpa using M));have G:c=[]/\q=[]:=by
  cases c with
  |nil=>exact⟨rfl,h⟩
  |cons g c=>exact h.elim
 obtain⟨rfl,rfl⟩:=G;have hc:=VX C (F (IZ r d)) (fun k hk=>hk) E i;refine hc.mono ?_;rintro e l ⟨m,aD,rfl,k1,k2,k3,k4⟩;refine⟨m,rfl,?_⟩;obtain⟨f1,f2,f3⟩:=D H (a++[]) (by simpa using hlen);have e1:m=.bool true:=by simpa[aw]using k4
 have I:=DataW.TrodAll.lt d;refine Sv (pa:=p) (pv:=[]) A ?_ ?_ ?_ rfl (ayH k2 k3 _)
 ·intro b sp Q;rw[f1,J,e1];refine⟨[],[],⟨1,?_⟩,rfl,rfl⟩;simp[a2,B,a6]
 ·intro sp hs;rw[f2];simp only[List.append_nil]at hs⊢;exact F9 (DataW.TrodAll.respare K O z d fun p i=>hs p i) fun x hx=>aAH k2 (I x hx)
 ·intro sp hs;rw[f3,u];rfl
end
end Go.au
