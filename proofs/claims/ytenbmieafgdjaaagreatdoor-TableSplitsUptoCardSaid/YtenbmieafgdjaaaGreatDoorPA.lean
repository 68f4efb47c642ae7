import Derived.Test.YtenbmieafgdjaaaGreatDoorThE
import Derived.Deep.Slices
import Derived.Test.YtenbmieafgdjaaaGreatDoorProg
import Derived.KernelRfl
import Derived.Lib.ItoaNum
import Derived.Test.YtenbmieafgdjaaaGreatDoorRows
import Derived.Lib.LaidTab
import Derived.ReadAgain
import Derived.ChangeOld
import Derived.RowKit3
import Derived.ChangeSame
import Derived.WideShapes
/- Parts of a proof. -/
set_option linter.unusedSimpArgs false
set_option linter.unusedVariables false
set_option linter.unusedSectionVars false
open Go.Proofs.Tryz
open Array renaming getElem?_eq_some_iff->am
open Bool renaming and_eq_true->an
open Go renaming MemPlace->ao, Value->ap, TypeId->ar, DataW->av, Program->ax, World->ay, ChangeSpec->aT
open Go.DataW renaming trod->a0, TrodAll->a1, Whole->a2
open Go.Value renaming okWide->a3, cells->a4
open Go.World renaming cells?_some->a5, cell?->a6, sameAt->a7
open List renaming getElem?_eq_getElem->a8, mem_cons_of_mem->a9, mem_cons_self->bb, range->be, flatten_append->bi, map_cons->bk, range_succ->bl, map_append->bo, mem_cons->bv, take_of_length_le->b0, zip_cons_cons->b1, replicate->b2, mem_range->b3, take_add->b4, sum_cons->b5
open Nat renaming succ_mul->cb
namespace Go.au
open Go.Deep
section
variable{H:Type}
def bF(P:ax):Nat->ar->av H->PV
 |0,_,_=>.undef
 |n+1,t,d=>match P.underlying t,d with
  |some .bool,.lit (.bool b)=>.bool b
  |some (.int k),.lit (.int _ z)=>if(Lit.int k z).wf=true then .int k z else .undef
  |some .string,.lit (.string s)=>.str (s.map (·.toNat))
  |some (.slice e),.slice ds _=>.seq (ds.map (bF P n e))
  |some (.slice _),.nil=>.seq []
  |some (.struct fs),.agg ds=>.st (P.underlyingId t) ((fs.toList.zip ds).map fun p=>bF P n p.1.type p.2)
  |some (.array _ e),.agg ds=>.st (P.underlyingId t) (ds.map (bF P n e))
  |_,_=>.undef
def Ac(P:ax):Nat->List Field->Bool
 |_,[]=>true
 |o,f::fs=>(f.offset==o)&&Ac P (o+P.cellsOf f.type) fs
def lI(P:ax):Nat->ar->Bool
 |0,_=>false
 |n+1,t=>match P.underlying t with
  |some .bool|some (.int _)|some .string=>true
  |some (.slice e)=>lI P n e&&decide (0<P.cellsOf e)
  |some (.struct fs)=>(dR P (P.underlyingId t)==some (fs.toList.map fun f=>P.cellsOf f.type))&&Ac P 0 fs.toList&&(((fs.toList.map fun f=>P.cellsOf f.type).sum)==P.cellsOf t)&&fs.toList.all fun f=>lI P n f.type
  |some (.array m e)=>(dR P (P.underlyingId t)==some (b2 m (P.cellsOf e)))&&(m*P.cellsOf e==P.cellsOf t)&&lI P n e
  |_=>false
variable{enc:ar×ap->H}{P:ax}{w:ay}{base:Nat}{held:Bool}
theorem Ok{n k:Nat}{aa:Nat->Prop}(l:∀t cs d u,lI P n t=true->a0 enc P w base (fun _=>true) held k t cs=some (d,u)->aR P w aa (bF P n t d) cs):
 ∀(fs:List Field)(a:List (av H×List ao))(o:Nat)(cs:List ap),Ac P o fs=true->a.length=fs.length->(∀f∈fs,lI P n f.type=true)->o+(fs.map fun f=>P.cellsOf f.type).sum<=cs.length->
  (∀(i:Nat)(f:Field),fs[i]?=some f->a0 enc P w base (fun _=>true) held k f.type ((cs.drop f.offset).take (P.cellsOf f.type))=a[i]?)->
  bg P w aa (fs.map fun f=>P.cellsOf f.type) ((fs.zip (a.map (·.1))).map fun p=>bF P n p.1.type p.2) (fs.map fun f=>(cs.drop f.offset).take (P.cellsOf f.type))/\
   (fs.map fun f=>(cs.drop f.offset).take (P.cellsOf f.type)).flatten=(cs.drop o).take (fs.map fun f=>P.cellsOf f.type).sum
 |[],a,o,cs,_,b,_,_,_=>by
  have:a=[]:=by simpa using b
  subst this;simp[bg]
 |f::fs,[],o,cs,_,b,_,_,_=>by simp at b
 |f::fs,x::a,o,cs,c,b,h,hlen,hx=>by
  simp only[Ac,an,beq_iff_eq]at c;obtain⟨c,s⟩:=c;simp only[bk,b5]at hlen;have j:=hx 0 f rfl;simp only[List.getElem?_cons_zero]at j;have m:=l _ _ x.1 x.2 (h f bb) j;have⟨q,r⟩:=Ok l fs a (o+P.cellsOf f.type) cs s (by simpa using b) (fun g e=>h g (a9 _ e)) (by omega) (fun i g e=>by have:=hx (i+1) g (by simpa using e);simpa using this);refine⟨?_,?_⟩
  ·simp only[bk,b1,bg];exact⟨_,_,rfl,m,by simp[c];omega,q⟩
  ·simp only[bk,List.flatten_cons,b5,r,c];rw[<-List.drop_drop,b4]
theorem Cc{ai len:Nat}{aa:Nat->Prop}{f:Nat->PV}{g:Nat->List ap}:∀{l:List Nat},(∀i∈l,aR P w aa (f i) (g i)/\(g i).length=ai)->bg P w aa (b2 l.length ai) (l.map f) (l.map g)
 |[],_=>by simp[bg]
 |a::l,h=>by
  simp only[List.length_cons,List.replicate_succ,bk,bg];exact⟨_,_,rfl,(h a bb).1,(h a bb).2,Cc (len:=len) fun i hi=>h i (a9 _ hi)⟩
theorem trod_array{m:Nat}{e t:ar}{b:Nat}{cs:List ap}{x:av H×List ao}{d:Nat->Bool}(g:P.underlying t=some (.array m e))(h:a0 enc P w base d held b t cs=some x):
 ∃(a:List (av H×List ao))(n:Nat),b=n+1/\x=(.agg (a.map (·.1)),a.flatMap (·.2))/\cs.length=P.cellsOf t/\a.length=m/\
  ∀i,i<m->a0 enc P w base d held n e ((cs.drop (i*P.cellsOf e)).take (P.cellsOf e))=a[i]?:=by
 cases b with
 |zero=>simp[a0]at h
 |succ n=>
  unfold a0 at h;rw[g]at h
  split at h<;>simp_all
  obtain⟨j,a,c,f⟩:=h;exact⟨a,f.symm,by simpa using mapM_some_length c,fun i hi=>mapM_some_get c i i (by simp[hi])⟩
theorem Jk{α:Type}{cs:List α}{ai:Nat}:∀m,((be m).map fun i=>(cs.drop (i*ai)).take ai).flatten=cs.take (m*ai)
 |0=>by simp
 |m+1=>by
  rw[bl,bo,bi,Jk m,cb,b4];simp
theorem Db{V:Nat->List ap}{ai:Nat}:∀(len:Nat),(∀i,i<len->(V i).length=ai)->((be len).map V).flatten.length=len*ai
 |0,_=>by simp
 |len+1,h=>by
  rw[bl,bo,bi,List.length_append,Db len fun i hi=>h i (by omega),cb];simp[h len (by omega)]
theorem JT{V:Nat->List ap}{ai b o:Nat}:∀(len:Nat),(∀i,i<len->(V i).length=ai)->(∀i,i<len->∀j,j<ai->w.cell? ⟨b,o+(i*ai+j),none⟩=(V i)[j]?)->gP w b o ((be len).map V).flatten
 |0,_,_=>by intro i hi;simp at hi
 |len+1,h,hc=>by
  intro i hi;have a:=Db (V:=V) (ai:=ai) len fun i hi=>h i (by omega);have c:=JT (V:=V) (ai:=ai) (b:=b) (o:=o) len (fun i hi=>h i (by omega)) (fun i hi=>hc i (by omega));have e:((be (len+1)).map V).flatten=((be len).map V).flatten++V len:=by
   rw[bl,bo,bi];simp
  have f:i<len*ai+ai:=by
   have:=Db (V:=V) (ai:=ai) (len+1) h;rw[cb]at this;omega
  rw[<-a8 hi,e]
  by_cases d:i<len*ai
  ·rw[List.getElem?_append_left (by omega),a8 (by omega)];exact c i (by omega)
  ·rw[List.getElem?_append_right (by omega),a];have:=hc len (by omega) (i-len*ai) (by omega);rw[<-this];congr 3;omega
theorem wC:∀(n:Nat)(J:Nat)(t:ar)(cs:List ap)(d:av H)(r:List ao),lI P n t=true->a0 enc P w base (fun _=>true) held J t cs=some (d,r)->
 aR P w (fun k=>k<w.heap.size) (bF P n t d) cs
 |0,_,_,_,_,_,h,_=>by simp[lI]at h
 |n+1,J,t,cs,d,r,h,p=>by
  simp only[lI]at h
  split at h
  ·rename_i o;obtain⟨b,rfl,hx⟩:=DataW.trod_bool o p;cases hx;simp[bF,o,aR]
  ·rename_i k o;obtain⟨z,rfl,hx,E⟩:=DataW.trod_int o p;cases hx;simp[bF,o,E,aR]
  ·rename_i o;obtain⟨s,rfl,hx,_⟩:=DataW.trod_string o p;cases hx;simp[bF,o,aR]
  ·rename_i e o;simp only[an,decide_eq_true_eq]at h;obtain⟨v,B⟩:=h;rcases open_slice o p with⟨rfl,hx⟩|⟨a,len,cap,m,k,D,S,rfl,ad,Y,af,O,hx,U⟩
   ·cases hx;simp[bF,o,aR]
   cases hx;simp only[if_true]at O;subst O;obtain⟨V,q⟩:=choose_lt U;have R:a.spot=none\/m=0:=by
    by_cases E:m=0
    ·exact .inr E
    left;obtain⟨c1,_⟩:=q 0 (by omega);obtain⟨_,c2,c3⟩:=a5 c1;have c4:=c3 0 B;rw[a8 (by omega)]at c4;simp only[Addr.add,Nat.zero_mul,if_true]at c4;unfold a6 at c4
    split at c4
    ·split at c4
     ·cases c4
     ·rename_i hs;simpa using hs
    ·cases c4
   have M:∀i,i<m->∀j,j<P.cellsOf e->w.cell? ⟨a.block,a.off+(i*P.cellsOf e+j),none⟩=(V i)[j]?:=by
    intro i hi j X;have hs:a.spot=none:=R.resolve_right (by omega);obtain⟨_,_,c3⟩:=a5 (q i hi).1;have:=c3 j X;rw[add_add]at this;rw[<-this];obtain⟨F,G,I⟩:=a;simp only at hs;subst hs;unfold Addr.add;split<;>simp_all
   have A:∀i,i<m->(V i).length=P.cellsOf e:=fun i hi=>(a5 (q i hi).1).2.1;simp only[bF,o,aR];right;obtain⟨F,G,I⟩:=a;refine⟨F,G,m,P.cellsOf e,(be len).map V,?_,?_,?_,by simpa using Y,I,R,by simp⟩
   ·have:=Cc (P:=P) (w:=w) (len:=len) (ai:=P.cellsOf e) (aa:=fun k=>k<w.heap.size) (f:=fun i=>bF P n e (D i)) (g:=V) (l:=be len) (fun i hi=>by
     have hi:i<m:=by have:=b3.1 hi;omega
     exact⟨wC n k e (V i) (D i) (S i) v (q i hi).2,A i hi⟩)
    simpa[Function.comp_def]using this
   ·intro Z;have ac:0<len:=by
     rcases Nat.eq_zero_or_pos len with h|h
     ·subst h;simp at Z
     ·exact h
    have c:=M 0 (by omega) 0 B;rw[a8 (by rw[A 0 (by omega)];exact B)]at c;unfold a6 at c
    split at c
    ·rename_i y;exact(am.1 y).1
    ·cases c
   ·exact JT len (fun i hi=>A i (by omega)) (fun i hi=>M i (by omega))
  ·rename_i fs o;simp only[an,beq_iff_eq,List.all_eq_true]at h;obtain⟨⟨⟨u,K⟩,L⟩,T⟩:=h;obtain⟨xs,k,rfl,hx,hlen,C,hf⟩:=DataW.trod_struct o p;cases hx;have⟨g1,g2⟩:=Ok (aa:=fun k=>k<w.heap.size) (fun t cs d r ab y=>wC n k t cs d r ab y) fs.toList xs 0 cs K (by simpa using C) T (by omega) (fun i f hi=>hf i f (by simpa using hi));simp only[bF,o,aR];refine⟨_,_,u,g1,?_⟩;rw[g2,List.drop_zero,b0 (by omega)]
  ·rename_i m e o;simp only[an,beq_iff_eq]at h;obtain⟨⟨u,K⟩,L⟩:=h;obtain⟨xs,k,rfl,hx,hlen,C,hf⟩:=trod_array o p;cases hx;have Q:=Cc (P:=P) (w:=w) (len:=m) (ai:=P.cellsOf e) (aa:=fun k=>k<w.heap.size) (f:=fun i=>match xs[i]? with
     |some x=>bF P n e x.1
     |none=>.undef) (g:=fun i=>(cs.drop (i*P.cellsOf e)).take (P.cellsOf e)) (l:=be m) (fun i hi=>by
      have hi:i<m:=b3.1 hi;have N:=hf i hi;rw[a8 (by omega)]at N⊢;refine⟨wC n k e _ xs[i].1 xs[i].2 L N,?_⟩;have:(i+1)*P.cellsOf e<=m*P.cellsOf e:=Nat.mul_le_mul_right _ hi;rw[cb]at this;simp;omega)
   have v:((be m).map fun i=>match xs[i]? with
    |some x=>bF P n e x.1
    |none=>.undef)=(xs.map (·.1)).map (bF P n e):=by
    apply List.ext_getElem
    ·simp[C]
    ·intro i W ae;simp at W;simp[a8 (show i<xs.length by omega)]
   rw[v,List.length_range]at Q;simp only[bF,o,aR];refine⟨_,_,u,Q,?_⟩;rw[Jk,b0 (by omega)]
  ·cases h
end
open Go.Proofs
def FE:Array ap:=(Lib.pow10Tab.map fun z=>Value.int .u64 z).toArray
def aJr:Nat->Option (Array ap)
 |1=>some FE
 |_=>none
instance auo:Gl:=⟨fun _=>.undef,5,aJr,fun u=>bif Nat.beq u 226 then some 227 else none⟩
@[simp] theorem ki3:kindOf prog 3=.leaf:=by kernel_rfl
@[simp] theorem FI:prog.underlying 3=some (.int .i64):=by kernel_rfl
@[simp] theorem tz3:cT prog 3=some (.int .i64 (0)):=by kernel_rfl
@[simp] theorem ki4:kindOf prog 4=.leaf:=by kernel_rfl
@[simp] theorem ib4:rq prog 4=true:=by kernel_rfl
@[simp] theorem tz4:cT prog 4=some (.bool false):=by kernel_rfl
@[simp] theorem FK:prog.underlying 5=some (.int .u8):=by kernel_rfl
@[simp] theorem tz5:cT prog 5=some (.int .u8 (0)):=by kernel_rfl
@[simp] theorem ki9:kindOf prog 9=.leaf:=by kernel_rfl
@[simp] theorem FL:prog.underlying 9=some .string:=by kernel_rfl
@[simp] theorem at9:iF prog 9=true:=by kernel_rfl
@[simp] theorem tz9:cT prog 9=some (.str []):=by kernel_rfl
@[simp] theorem aL9:kindOf prog 22=.leaf:=by kernel_rfl
@[simp] theorem aKm:prog.underlying 22=some (.slice 61):=by kernel_rfl
@[simp] theorem aKS:iF prog 22=true:=by kernel_rfl
@[simp] theorem aLf:cR prog 22=some 2:=by kernel_rfl
@[simp] theorem aLv:eB prog 22=61:=by kernel_rfl
@[simp] theorem aMc:kindOf prog 23=.leaf:=by kernel_rfl
@[simp] theorem aKn:prog.underlying 23=some (.slice 110):=by kernel_rfl
@[simp] theorem aLh:cR prog 23=some 4:=by kernel_rfl
@[simp] theorem aMd:kindOf prog 24=.leaf:=by kernel_rfl
@[simp] theorem aKo:prog.underlying 24=some (.slice 49):=by kernel_rfl
@[simp] theorem aLi:cR prog 24=some 3:=by kernel_rfl
@[simp] theorem aMe:kindOf prog 26=.agg 25:=by kernel_rfl
@[simp] theorem aNf:fU prog 26=some (25,4):=by kernel_rfl
@[simp] theorem aLk:cR prog 31=some 2:=by kernel_rfl
@[simp] theorem aLy:eB prog 31=47:=by kernel_rfl
@[simp] theorem aMh:kindOf prog 32=.leaf:=by kernel_rfl
@[simp] theorem aNE:cT prog 32=some (.int .i64 (0)):=by kernel_rfl
@[simp] theorem aMi:kindOf prog 35=.leaf:=by kernel_rfl
@[simp] theorem aKT:iF prog 35=true:=by kernel_rfl
@[simp] theorem aLl:cR prog 35=some 4:=by kernel_rfl
@[simp] theorem aLz:eB prog 35=112:=by kernel_rfl
@[simp] theorem aMj:kindOf prog 36=.leaf:=by kernel_rfl
@[simp] theorem aKU:iF prog 36=true:=by kernel_rfl
@[simp] theorem aLm:cR prog 36=some 3:=by kernel_rfl
@[simp] theorem aLA:eB prog 36=152:=by kernel_rfl
@[simp] theorem aMk:kindOf prog 38=.agg 37:=by kernel_rfl
@[simp] theorem aNg:fU prog 38=some (37,4):=by kernel_rfl
@[simp] theorem aNF:cT prog 38=some (.st 37 [.aP,.int .i64 (0),.aP,.aP]):=by kernel_rfl
@[simp] theorem aMn:kindOf prog 45=.leaf:=by kernel_rfl
@[simp] theorem FJ:prog.underlying 45=some .string:=by kernel_rfl
@[simp] theorem aNH:cT prog 45=some (.str []):=by kernel_rfl
@[simp] theorem aMo:kindOf prog 47=.agg 46:=by kernel_rfl
@[simp] theorem aNh:fU prog 47=some (46,2):=by kernel_rfl
@[simp] theorem aNI:cT prog 47=some (.st 46 [.str [],.str []]):=by kernel_rfl
@[simp] theorem aMp:kindOf prog 49=.agg 48:=by kernel_rfl
@[simp] theorem aNi:fU prog 49=some (48,2):=by kernel_rfl
@[simp] theorem aNJ:cT prog 49=some (.st 48 [.str [],.st 46 [.str [],.str []]]):=by kernel_rfl
@[simp] theorem aMq:kindOf prog 61=.agg 60:=by kernel_rfl
@[simp] theorem aNj:fU prog 61=some (60,2):=by kernel_rfl
@[simp] theorem aNL:cT prog 61=some (.st 60 [.int .i64 (0),.int .i64 (0)]):=by kernel_rfl
@[simp] theorem aKp:prog.underlying 64=some (.slice 75):=by kernel_rfl
@[simp] theorem aKV:iF prog 64=true:=by kernel_rfl
@[simp] theorem aLn:cR prog 64=some 3:=by kernel_rfl
@[simp] theorem aLB:eB prog 64=75:=by kernel_rfl
@[simp] theorem aMr:kindOf prog 66=.agg 65:=by kernel_rfl
@[simp] theorem aNk:fU prog 66=some (65,2):=by kernel_rfl
@[simp] theorem aKW:iF prog 70=true:=by kernel_rfl
@[simp] theorem aLo:cR prog 70=some 3:=by kernel_rfl
@[simp] theorem aLC:eB prog 70=72:=by kernel_rfl
@[simp] theorem aMs:kindOf prog 72=.agg 48:=by kernel_rfl
@[simp] theorem aNl:fU prog 72=some (48,2):=by kernel_rfl
@[simp] theorem aNM:cT prog 72=some (.st 48 [.str [],.st 46 [.str [],.str []]]):=by kernel_rfl
@[simp] theorem aMt:kindOf prog 75=.agg 48:=by kernel_rfl
@[simp] theorem aNm:fU prog 75=some (48,2):=by kernel_rfl
@[simp] theorem aNN:cT prog 75=some (.st 48 [.str [],.st 46 [.str [],.str []]]):=by kernel_rfl
@[simp] theorem aKX:iF prog 82=true:=by kernel_rfl
@[simp] theorem aLp:cR prog 82=some 1:=by kernel_rfl
@[simp] theorem aLD:eB prog 82=9:=by kernel_rfl
@[simp] theorem aLY:kindOf prog 110=.agg 109:=by kernel_rfl
@[simp] theorem aM8:fU prog 110=some (109,4):=by kernel_rfl
@[simp] theorem aNt:cT prog 110=some (.st 109 [.str [],.int .i64 (0),.str [],.str []]):=by kernel_rfl
@[simp] theorem aLZ:kindOf prog 112=.agg 109:=by kernel_rfl
@[simp] theorem aM9:fU prog 112=some (109,4):=by kernel_rfl
@[simp] theorem aNu:cT prog 112=some (.st 109 [.str [],.int .i64 (0),.str [],.str []]):=by kernel_rfl
@[simp] theorem aL0:kindOf prog 128=.leaf:=by kernel_rfl
@[simp] theorem aLc:cR prog 128=some 1:=by kernel_rfl
@[simp] theorem aLs:eB prog 128=308:=by kernel_rfl
@[simp] theorem aL1:kindOf prog 130=.agg 129:=by kernel_rfl
@[simp] theorem aNa:fU prog 130=some (129,2):=by kernel_rfl
@[simp] theorem aNv:cT prog 130=some (.st 129 [.int .i64 (0),.aP]):=by kernel_rfl
@[simp] theorem aL2:kindOf prog 132=.agg 131:=by kernel_rfl
@[simp] theorem aNb:fU prog 132=some (131,2):=by kernel_rfl
@[simp] theorem aNw:cT prog 132=some (.st 131 [.st 129 [.int .i64 (0),.aP],.st 129 [.int .i64 (0),.aP]]):=by kernel_rfl
@[simp] theorem aL3:kindOf prog 134=.agg 133:=by kernel_rfl
@[simp] theorem aKO:hJ prog 134=some (133,2):=by kernel_rfl
@[simp] theorem aNx:cT prog 134=some (.st 133 [.st 131 [.st 129 [.int .i64 (0),.aP],.st 129 [.int .i64 (0),.aP]],.st 131 [.st 129 [.int .i64 (0),.aP],.st 129 [.int .i64 (0),.aP]]]):=by kernel_rfl
@[simp] theorem aL4:kindOf prog 152=.agg 48:=by kernel_rfl
@[simp] theorem aNc:fU prog 152=some (48,2):=by kernel_rfl
@[simp] theorem aNy:cT prog 152=some (.st 48 [.str [],.st 46 [.str [],.str []]]):=by kernel_rfl
@[simp] theorem aL5:kindOf prog 156=.leaf:=by kernel_rfl
@[simp] theorem aKR:iF prog 156=true:=by kernel_rfl
@[simp] theorem aLd:cR prog 156=some 1:=by kernel_rfl
@[simp] theorem aLt:eB prog 156=3:=by kernel_rfl
@[simp] theorem aL6:kindOf prog 164=.agg 164:=by kernel_rfl
@[simp] theorem aKP:hJ prog 164=some (164,2):=by kernel_rfl
@[simp] theorem aNz:cT prog 164=some (.st 164 [.st 133 [.st 131 [.st 129 [.int .i64 (0),.aP],.st 129 [.int .i64 (0),.aP]],.st 131 [.st 129 [.int .i64 (0),.aP],.st 129 [.int .i64 (0),.aP]]],.st 133 [.st 131 [.st 129 [.int .i64 (0),.aP],.st 129 [.int .i64 (0),.aP]],.st 131 [.st 129 [.int .i64 (0),.aP],.st 129 [.int .i64 (0),.aP]]]]):=by kernel_rfl
@[simp] theorem aL7:kindOf prog 170=.agg 169:=by kernel_rfl
@[simp] theorem aNd:fU prog 170=some (169,2):=by kernel_rfl
@[simp] theorem aNA:cT prog 170=some (.st 169 [.bool false,.aP]):=by kernel_rfl
@[simp] theorem aL8:kindOf prog 180=.leaf:=by kernel_rfl
@[simp] theorem aLe:cR prog 180=some 1:=by kernel_rfl
@[simp] theorem aLu:eB prog 180=45:=by kernel_rfl
@[simp] theorem aMa:kindOf prog 225=.leaf:=by kernel_rfl
@[simp] theorem aLg:cR prog 225=some 1:=by kernel_rfl
@[simp] theorem aLw:eB prog 225=5:=by kernel_rfl
@[simp] theorem aMb:kindOf prog 227=.agg 226:=by kernel_rfl
@[simp] theorem aNe:fU prog 227=some (226,2):=by kernel_rfl
@[simp] theorem aNB:cT prog 227=some (.st 226 [.dM,.aP]):=by kernel_rfl
@[simp] theorem aLj:cR prog 248=some 1:=by kernel_rfl
@[simp] theorem aLx:eB prog 248=32:=by kernel_rfl
@[simp] theorem aMg:kindOf prog 308=.leaf:=by kernel_rfl
@[simp] theorem aND:cT prog 308=some (.int .u64 (0)):=by kernel_rfl
@[simp] theorem aMl:kindOf prog 382=.agg 381:=by kernel_rfl
@[simp] theorem aKQ:hJ prog 382=some (381,256):=by kernel_rfl
@[simp] theorem aJ3:dR prog 25=some [1,1,1,1]:=by kernel_rfl
@[simp] theorem aNs:dR prog 37=some [1,1,1,1]:=by kernel_rfl
@[simp] theorem aJ4:dR prog 46=some [1,1]:=by kernel_rfl
@[simp] theorem RW:dR prog 48=some [1,2]:=by kernel_rfl
@[simp] theorem aJ5:dR prog 60=some [1,1]:=by kernel_rfl
@[simp] theorem aJ6:dR prog 65=some [1,2]:=by kernel_rfl
@[simp] theorem aJ2:dR prog 109=some [1,1,1,1]:=by kernel_rfl
@[simp] theorem aNn:dR prog 129=some [1,1]:=by kernel_rfl
@[simp] theorem aNo:dR prog 131=some [2,2]:=by kernel_rfl
@[simp] theorem aNp:dR prog 133=some [4,4]:=by kernel_rfl
@[simp] theorem aNq:dR prog 164=some [8,8]:=by kernel_rfl
@[simp] theorem aNr:dR prog 169=some [1,1]:=by kernel_rfl
set_option maxRecDepth 100000
section
variable{H:Type}{w:ay}{aa:Nat->Prop}
theorem Gn{P:ax}:∀{l:List Nat}{d:List PV}{b:List (List ap)},bg P w aa l d b->∀e∈d,∃c,aR P w aa e c
 |_,[],_,_=>fun e a=>by cases a
 |[],v::vs,_,h=>by simp[bg]at h
 |n::i,v::vs,b,h=>by
  simp only[bg]at h;obtain⟨c,cs,_,f,_,g⟩:=h;intro e a;rcases bv.1 a with rfl|a
  ·exact⟨c,f⟩
  ·exact Gn g e a
theorem xV{n:Nat}(d:av H)(c)(h:aR prog w aa (bF prog (n+1) 3 d) c):∃z:Int,bF prog (n+1) 3 d=.int .i64 z:=by
 cases d with
 |lit l=>
  cases l with
  |int k z=>
   simp only[bF,FI]at h⊢
   split at h
   ·rename_i a;rw[if_pos a];exact⟨_,rfl⟩
   ·simp only[aR]at h
  |_=>simp only[bF,FI,aR]at h
 |_=>simp only[bF,FI,aR]at h
end
theorem I5{P:ax}{W:ay}{name:String}{d:av Unit}:∀{l:List (String×av Unit)}{b:List ao},DataW.LaidVars P W l b->(name,d)∈l->
 ∃g t cs a p,P.globalNamed name=some g/\(P.globals[g]?).map (·.type)=some t/\W.var? P name=some cs/\a0 (fun _=>()) P W 0 (fun _=>true) false a t cs.toList=some (d,p)/\∀x∈MemPlace.row ⟨g,0,none⟩ cs.size,x∈b
 |[],_,_,h=>by cases h
 |(n,d0)::r,b,h,hm=>by
  obtain⟨g,t,cs,a,p,q,j,k,m,o,s,rfl⟩:=h;rcases bv.1 hm with e|hm
  ·cases e;exact⟨g,t,cs,a,p,j,k,m,o,fun x hx=>by simp[hx]⟩
  ·obtain⟨i,v,c,f,u,k1,k2,k3,k4,k5⟩:=I5 s hm;exact⟨i,v,c,f,u,k1,k2,k3,k4,fun x hx=>by simp[k5 x hx]⟩
open Go.Proofs Go.Proofs.YtenbmieafgdjaaaGreatDoor
theorem KX:prog.globalNamed "internal/strconv.uint64pow10" =some 1:=by kernel_rfl
theorem Vl:((Rows.tableRacksUptoRow.laid).filter fun x=>x.2.handleName?.isSome)=[]:=by kernel_rfl
theorem aJk:(prog.globals[1]?).map (·.type)=some 396:=by kernel_rfl
theorem aJl:prog.underlying 396=some (.array 20 308):=by kernel_rfl
theorem aJi:prog.underlying 308=some (.int .u64):=by kernel_rfl
theorem aJg:prog.cellsOf 308=1:=by kernel_rfl
theorem aJh:prog.cellsOf 396=20:=by kernel_rfl
theorem FU{W:ay}(h:laidMetH prog Rows.tableRacksUptoRow.laid W):mU prog W (fun k=>k<W.heap.size):=by
 unfold laidMetH at h;rw[Vl]at h;obtain⟨n,j,_,l⟩:=h;obtain⟨g,t,cs,fuel,p,k1,k2,k3,k4,k5⟩:=I5 (name:= "internal/strconv.uint64pow10") (d:=Lib.tabData .u64 Lib.pow10Tab) j (by
  show _∈[_,_,_,_,_,_,_];exact a9 _ (a9 _ bb))
 rw[KX]at k1;cases k1;rw[aJk]at k2;cases k2;have f:=Lib.cells_of_tab aJl aJi aJg aJh k4;have e:cs=FE:=by rw[FE,<-f]
 have i:0<cs.size:=by rw[e];decide
 obtain⟨⟨c,T,b⟩,_⟩:=l 1 0 (k5 _ (by simp[MemPlace.row];exact i));refine⟨fun g=>by simp[aD,Gl.g],fun g m a=>?_⟩
 match g,a with
 |1,a=>
  cases a;refine⟨(am.1 b).1,T,?_⟩;simp only[World.var?,KX,Option.bind_some,b,Option.some.injEq]at k3;rw[b,k3,e]
section
variable[Gl]{P:ax}
theorem Y0{f:FuncId}{args:List PV}{v:PV}(g:Enters P f)(h:aC P f args v){w:ay}{aa:Nat->Prop}{a:List ap}(d:∀k,aa k->k<w.heap.size)(i:mU P w aa)(c:bt P w aa args a):
 Calls P f a.toArray w fun e w'=>∃b,∃aF:Nat->Prop,e=.returned b/\w.heap.size<=w'.heap.size/\(∀k,k<w.heap.size->w'.heap[k]?=w.heap[k]?)/\(w'.os=w.os/\w'.output=w.output)/\aD P w' aF v b:=by
 rcases h with h|h
 ·refine(h.2 w aa a d i c).mono ?_;rintro e w' ⟨b,aF,k1,_,_,_,k5,k6,j,k7⟩;exact⟨b,aF,k1,k5,k6,j,k7⟩
 ·obtain⟨b,k1,_⟩:=h w aa a c;rw[g a.toArray w]at k1;cases k1
theorem aEK{w w':ay}(h:∀k,k<w.heap.size->w'.heap[k]?=w.heap[k]?)(a:w'.os=w.os/\w'.output=w.output)(b:ao->Prop):w.keptBut w' b:=by
 refine⟨a.1,a.2,fun i hi=>?_⟩;rw[h i hi];cases w.heap[i]? with
 |none=>rfl
 |some o=>cases o<;>first|exact⟨rfl,rfl,rfl,fun _ _=>rfl⟩|exact .inr ⟨rfl,rfl⟩|rfl
theorem aJE{w w':ay}(h:∀k,k<w.heap.size->w'.heap[k]?=w.heap[k]?){p:ao}(a:p.block<w.heap.size):w.sameAt w' p:=by
 cases p with
 |cell b o=>simp only[a7,a6];rw[h b a]
 |map b=>simp only[a7];rw[h b a]
theorem VG{H:Type}{e:ar×ap->H}{f:Func}{s:aT}{apart fresh handsOn:Bool}{W c:ay}{args:Array ap}{v:ap}{d g:List (av H)}{a pa pv:List ao}
 (j:a2 e P f.params.toList s.vars apart W args.toList d g a)
 (o:∀(b:Nat)(sp:Nat->Bool)(m:Bool),a1 e P c b sp m f.resultTypes.toList (v.resultList f.resultTypes.size) (s.fn H (d++g)).results [])
 (l:∀sp:Nat->Bool,(∀p∈a,sp p.block=true)->a1 e P c 0 sp true f.params.toList args.toList (s.fn H (d++g)).args pa)
 (q:∀sp:Nat->Bool,(∀p∈a,sp p.block=true)->DataW.TrodVars e P c sp s.vars (s.fn H (d++g)).vars pv)
 (n:a=pa++pv)(hk:W.keptBut c (·∈a)):s.post e P f apart fresh handsOn false W args v c:=by
 have k:∀p∈a,(fun b=>decide (b<W.heap.size)) p.block=true:=fun p i=>by simpa using j.lt p i
 refine⟨d,g,a,[],pa,pv,j,o _ _ _,l _ k,q _ k,World.keptBut_mono (fun p i=>⟨i,?_⟩) hk,fun h=>by cases h⟩;rw[n,List.mem_append]at i;exact Or.inr i
end
section
variable{H:Type}{enc:ar×ap->H}{P:ax}{w:ay}
theorem XF{n:Nat}{t:ar}{d:av H}{cs:List ap}{aa:Nat->Prop}(h:aR P w aa (bF P n t d) cs):
 (((∃fs,P.underlying t=some (.struct fs))\/∃m e,P.underlying t=some (.array m e))/\∃u,aL (bF P n t d)=.agg u)\/((P.underlying t=some .bool\/(∃k,P.underlying t=some (.int k))\/P.underlying t=some .string\/∃e,P.underlying t=some (.slice e))/\aL (bF P n t d)=.leaf):=by
 cases n with
 |zero=>simp only[bF,aR]at h
 |succ n=>
  unfold bF at h⊢
  split at h
  ·rename_i a;exact .inr ⟨.inl a,rfl⟩
  ·rename_i k z a
   split at h
   ·rename_i b;rw[if_pos b];exact .inr ⟨.inr (.inl ⟨_,a⟩),rfl⟩
   ·simp only[aR]at h
  ·rename_i a;exact .inr ⟨.inr (.inr (.inl a)),rfl⟩
  ·rename_i a;exact .inr ⟨.inr (.inr (.inr ⟨_,a⟩)),rfl⟩
  ·rename_i a;exact .inr ⟨.inr (.inr (.inr ⟨_,a⟩)),rfl⟩
  ·rename_i a;exact .inl ⟨.inl ⟨_,a⟩,_,rfl⟩
  ·rename_i a;exact .inl ⟨.inr ⟨_,_,a⟩,_,rfl⟩
  ·simp only[aR]at h
theorem XD[Gl]{n:Nat}{t:ar}{v:ap}{d:av H}{f:List ao}{g i:Nat}{r:Reach}(j:lI P n t=true)(h:DataW.Trod enc P w g (fun _=>true) true t v d f)(b:a3 P w r i t v):
 aD P w (fun k=>k<w.heap.size) (bF P n t d) v:=by
 obtain⟨fuel,h⟩:=h;have hc:=wC n fuel t _ d f j h;rcases XF hc with⟨a,u,hs⟩|⟨a,hs⟩
 ·have:∃cs,v=.agg cs:=by
   rcases a with⟨fs,a⟩|⟨m,e,a⟩
   ·simp only[a3,a]at b;obtain⟨cs,rfl,_,_⟩:=b;exact⟨cs,rfl⟩
   ·simp only[a3,a]at b;obtain⟨cs,rfl,_,_⟩:=b;exact⟨cs,rfl⟩
  obtain⟨cs,rfl⟩:=this;rw[wO hs]at hc;simpa[a4]using hc
 ·rw[tO hs]at hc;obtain⟨c,hc,l⟩:=hc;have:v=c:=by
   cases v with
   |agg cs=>rcases a with a|⟨k,a⟩|a|⟨e,a⟩<;>simp[a3,a,Cell.okWide,Cell.ok]at b
   |_=>simpa[a4]using hc
  rw[this];exact l
def ow(P:ax)(n:Nat):List ar->List (av H)->List PV
 |t::ts,d::ds=>bF P n t d::ow P n ts ds
 |_,_=>[]
theorem zi[Gl]{n:Nat}{base:Nat}{r:Reach}:∀{ts:List ar}{vs:List ap}{ds:List (av H)}{h:List ao},(∀t∈ts,lI P n t=true)->a1 enc P w 0 (fun _=>true) true ts vs ds h->
 (∀(j:Nat) t v,ts[j]?=some t->vs[j]?=some v->a3 P w r base t v)->bt P w (fun k=>k<w.heap.size) (ow P n ts ds) vs/\ds.length=ts.length
 |[],[],[],_,_,_,_=>by simp[ow,bt]
 |t::ts,v::vs,d::ds,_,b,⟨p,q,e,f,_⟩,c=>by
  have⟨i1,i2⟩:=zi (ts:=ts) (vs:=vs) (ds:=ds) (fun t a=>b t (a9 _ a)) f (fun j t v a g=>c (j+1) t v (by simpa using a) (by simpa using g));refine⟨?_,by simp[i2]⟩;simp only[ow,bt];exact⟨v,vs,rfl,XD (b t bb) e (c 0 t v rfl rfl),i1⟩
theorem LA{n:Nat}:∀{ts:List ar}{vs:List ap}{ds:List (av H)}{g:List ao},(∀t∈ts,lI P n t=true)->a1 enc P w 0 (fun _=>true) true ts vs ds g->
 ∀p∈ts.zip ds,∃cs,aR P w (fun k=>k<w.heap.size) (bF P n p.1 p.2) cs
 |[],[],[],_,_,_=>by simp
 |t::ts,v::vs,d::ds,_,a,⟨p,q,⟨fuel,b⟩,c,_⟩=>by
  have f:=LA (ts:=ts) (vs:=vs) (ds:=ds) (fun t e=>a t (a9 _ e)) c;intro x hx;rw[b1]at hx;rcases bv.1 hx with rfl|hx
  ·exact⟨_,wC n fuel t _ d p (a t bb) b⟩
  ·exact f x hx
theorem IV{w':ay}{f:Nat}{g:Nat->Bool}{held:Bool}:∀{c:List ar}{vs:List ap}{a:List (av H)}{b:List ao},a1 enc P w f g held c vs a b->(∀p∈b,w.sameAt w' p)->
 a1 enc P w' f g held c vs a b
 |[],[],[],_,h,_=>h
 |t::c,v::vs,d::a,_,⟨p,q,⟨n,i⟩,j,e⟩,hs=>by
  subst e;exact⟨p,q,⟨n,DataW.trod_carry n _ _ _ i fun x hx=>hs x (List.mem_append_left _ hx)⟩,IV j fun x hx=>hs x (List.mem_append_right _ hx),rfl⟩
theorem Kn[Gl]{f:FuncId}{fn:Func}{s:aT}{n:Nat}{T:ar->Prop}(u:s.vars=[])(D:∀(H:Type)(a:List (av H)),a.length=fn.params.size->(s.fn H a).results=[.lit (.bool true)]/\(s.fn H a).args=a/\(s.fn H a).vars=[])
 (K:Kids P T)(O:∀t e,T t->P.underlying t=some (.slice e)->0<P.cellsOf e)(z:∀t∈fn.params.toList,T t)(r:∀t∈fn.params.toList,lI P n t=true){tb:ar}(J:fn.resultTypes=#[tb])(B:P.underlying tb=some .bool)
 (C:Enters P f){W:ay}{args:Array ap}{a c:List (av H)}{y:List ao}{w:Nat}(E:mU P W (fun k=>k<W.heap.size))
 (F:(∀p∈fn.params.toList.zip a,∃cs,aR P W (fun k=>k<W.heap.size) (bF P n p.1 p.2) cs)->aC P f (ow P n fn.params.toList a) (.bool true))
 (N:∀(j:Nat) t v,fn.params[j]?=some t->args[j]?=some v->a3 P W .any w t v)
 (o:a2 enc P fn.params.toList s.vars false W args.toList a c y):
 Calls P f args W fun e l=>∃v,e=.returned v/\s.post enc P fn false true false false W args v l:=by
 have A:=o;obtain⟨p,q,d,h,rfl,R,S⟩:=o;rw[u]at h;have⟨i,hlen⟩:=zi r d (fun j t v L M=>N j t v (by simpa using L) (by simpa using M));have G:c=[]/\q=[]:=by
  cases c with
  |nil=>exact⟨rfl,h⟩
  |cons g c=>exact h.elim
 obtain⟨rfl,rfl⟩:=G;have hc:=Y0 C (F (LA r d)) (fun k hk=>hk) E i;refine hc.mono ?_;rintro e l ⟨m,aF,rfl,k1,k2,k3,k4⟩;refine⟨m,rfl,?_⟩;obtain⟨f1,f2,f3⟩:=D H (a++[]) (by simpa using hlen);have e1:m=.bool true:=by simpa[aD]using k4
 have I:=DataW.TrodAll.lt d;refine VG (pa:=p) (pv:=[]) A ?_ ?_ ?_ rfl (aEK k2 k3 _)
 ·intro b sp Q;rw[f1,J,e1];refine⟨[],[],⟨1,?_⟩,rfl,rfl⟩;simp[a0,B,a4]
 ·intro sp hs;rw[f2];simp only[List.append_nil]at hs⊢;exact IV (DataW.TrodAll.respare K O z d fun p i=>hs p i) fun x hx=>aJE k2 (I x hx)
 ·intro sp hs;rw[f3,u];rfl
end
end Go.au
