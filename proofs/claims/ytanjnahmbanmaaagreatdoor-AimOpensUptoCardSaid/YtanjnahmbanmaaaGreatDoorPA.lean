import Derived.Test.YtanjnahmbanmaaaGreatDoorThE
import Derived.Deep.Slices
import Derived.Test.YtanjnahmbanmaaaGreatDoorProg
import Derived.KernelRfl
import Derived.Lib.ItoaNum
import Derived.Test.YtanjnahmbanmaaaGreatDoorRows
import Derived.Lib.LaidTab
import Derived.ReadAgain
import Derived.ChangeOld
import Derived.RowKit3
import Derived.ChangeSame
import Derived.WideShapes
/- Parts of a proof. -/
set_option linter.unusedSimpArgs false
set_option linter.unusedVariables false
set_option linter.unusedSectionVars false
open Go.Proofs.Tryz
open Array renaming getElem?_eq_some_iff->am
open Bool renaming and_eq_true->ao
open Go renaming MemPlace->ap, Value->av, TypeId->ax, DataW->ay, Program->aT, World->a0, ChangeSpec->a1
open Go.DataW renaming trod->a2, TrodAll->a3, Whole->a4
open Go.Value renaming okWide->a5, cells->a6
open Go.World renaming cells?_some->a7, cell?->a8, sameAt->a9
open List renaming getElem?_eq_getElem->bb, mem_cons_of_mem->be, mem_cons_self->bi, range->bl, flatten_append->bo, map_cons->bp, range_succ->bv, map_append->bI, mem_cons->bV, take_of_length_le->b0, zip_cons_cons->b1, replicate->b2, mem_range->b3, take_add->b4, sum_cons->b5
open Nat renaming succ_mul->cb
namespace Go.ak
open Go.Deep
section
variable{H:Type}
def bG(P:aT):Nat->ax->ay H->PV
 |0,_,_=>.undef
 |n+1,t,d=>match P.underlying t,d with
  |some .bool,.lit (.bool b)=>.bool b
  |some (.int k),.lit (.int _ z)=>if(Lit.int k z).wf=true then .int k z else .undef
  |some .string,.lit (.string s)=>.str (s.map (·.toNat))
  |some (.slice e),.slice ds _=>.seq (ds.map (bG P n e))
  |some (.slice _),.nil=>.seq []
  |some (.struct fs),.agg ds=>.st (P.underlyingId t) ((fs.toList.zip ds).map fun p=>bG P n p.1.type p.2)
  |some (.array _ e),.agg ds=>.st (P.underlyingId t) (ds.map (bG P n e))
  |_,_=>.undef
def yP(P:aT):Nat->List Field->Bool
 |_,[]=>true
 |o,f::fs=>(f.offset==o)&&yP P (o+P.cellsOf f.type) fs
def ld(P:aT):Nat->ax->Bool
 |0,_=>false
 |n+1,t=>match P.underlying t with
  |some .bool|some (.int _)|some .string=>true
  |some (.slice e)=>ld P n e&&decide (0<P.cellsOf e)
  |some (.struct fs)=>(dx P (P.underlyingId t)==some (fs.toList.map fun f=>P.cellsOf f.type))&&yP P 0 fs.toList&&(((fs.toList.map fun f=>P.cellsOf f.type).sum)==P.cellsOf t)&&fs.toList.all fun f=>ld P n f.type
  |some (.array m e)=>(dx P (P.underlyingId t)==some (b2 m (P.cellsOf e)))&&(m*P.cellsOf e==P.cellsOf t)&&ld P n e
  |_=>false
variable{enc:ax×av->H}{P:aT}{w:a0}{base:Nat}{held:Bool}
theorem LW{n k:Nat}{ad:Nat->Prop}(l:∀t cs d u,ld P n t=true->a2 enc P w base (fun _=>true) held k t cs=some (d,u)->aY P w ad (bG P n t d) cs):
 ∀(fs:List Field)(a:List (ay H×List ap))(o:Nat)(cs:List av),yP P o fs=true->a.length=fs.length->(∀f∈fs,ld P n f.type=true)->o+(fs.map fun f=>P.cellsOf f.type).sum<=cs.length->
  (∀(i:Nat)(f:Field),fs[i]?=some f->a2 enc P w base (fun _=>true) held k f.type ((cs.drop f.offset).take (P.cellsOf f.type))=a[i]?)->
  bk P w ad (fs.map fun f=>P.cellsOf f.type) ((fs.zip (a.map (·.1))).map fun p=>bG P n p.1.type p.2) (fs.map fun f=>(cs.drop f.offset).take (P.cellsOf f.type))/\
   (fs.map fun f=>(cs.drop f.offset).take (P.cellsOf f.type)).flatten=(cs.drop o).take (fs.map fun f=>P.cellsOf f.type).sum
 |[],a,o,cs,_,b,_,_,_=>by
  have:a=[]:=by simpa using b
  subst this;simp[bk]
 |f::fs,[],o,cs,_,b,_,_,_=>by simp at b
 |f::fs,x::a,o,cs,c,b,h,hlen,hx=>by
  simp only[yP,ao,beq_iff_eq]at c;obtain⟨c,s⟩:=c;simp only[bp,b5]at hlen;have j:=hx 0 f rfl;simp only[List.getElem?_cons_zero]at j;have m:=l _ _ x.1 x.2 (h f bi) j;have⟨q,r⟩:=LW l fs a (o+P.cellsOf f.type) cs s (by simpa using b) (fun g e=>h g (be _ e)) (by omega) (fun i g e=>by have:=hx (i+1) g (by simpa using e);simpa using this);refine⟨?_,?_⟩
  ·simp only[bp,b1,bk];exact⟨_,_,rfl,m,by simp[c];omega,q⟩
  ·simp only[bp,List.flatten_cons,b5,r,c];rw[<-List.drop_drop,b4]
theorem A7{ai len:Nat}{ad:Nat->Prop}{f:Nat->PV}{g:Nat->List av}:∀{l:List Nat},(∀i∈l,aY P w ad (f i) (g i)/\(g i).length=ai)->bk P w ad (b2 l.length ai) (l.map f) (l.map g)
 |[],_=>by simp[bk]
 |a::l,h=>by
  simp only[List.length_cons,List.replicate_succ,bp,bk];exact⟨_,_,rfl,(h a bi).1,(h a bi).2,A7 (len:=len) fun i hi=>h i (be _ hi)⟩
theorem trod_array{m:Nat}{e t:ax}{b:Nat}{cs:List av}{x:ay H×List ap}{d:Nat->Bool}(g:P.underlying t=some (.array m e))(h:a2 enc P w base d held b t cs=some x):
 ∃(a:List (ay H×List ap))(n:Nat),b=n+1/\x=(.agg (a.map (·.1)),a.flatMap (·.2))/\cs.length=P.cellsOf t/\a.length=m/\
  ∀i,i<m->a2 enc P w base d held n e ((cs.drop (i*P.cellsOf e)).take (P.cellsOf e))=a[i]?:=by
 cases b with
 |zero=>simp[a2]at h
 |succ n=>
  unfold a2 at h;rw[g]at h
  split at h<;>simp_all
  obtain⟨j,a,c,f⟩:=h;exact⟨a,f.symm,by simpa using mapM_some_length c,fun i hi=>mapM_some_get c i i (by simp[hi])⟩
theorem GW{α:Type}{cs:List α}{ai:Nat}:∀m,((bl m).map fun i=>(cs.drop (i*ai)).take ai).flatten=cs.take (m*ai)
 |0=>by simp
 |m+1=>by
  rw[bv,bI,bo,GW m,cb,b4];simp
theorem Cd{V:Nat->List av}{ai:Nat}:∀(len:Nat),(∀i,i<len->(V i).length=ai)->((bl len).map V).flatten.length=len*ai
 |0,_=>by simp
 |len+1,h=>by
  rw[bv,bI,bo,List.length_append,Cd len fun i hi=>h i (by omega),cb];simp[h len (by omega)]
theorem HA{V:Nat->List av}{ai b o:Nat}:∀(len:Nat),(∀i,i<len->(V i).length=ai)->(∀i,i<len->∀j,j<ai->w.cell? ⟨b,o+(i*ai+j),none⟩=(V i)[j]?)->gK w b o ((bl len).map V).flatten
 |0,_,_=>by intro i hi;simp at hi
 |len+1,h,hc=>by
  intro i hi;have a:=Cd (V:=V) (ai:=ai) len fun i hi=>h i (by omega);have c:=HA (V:=V) (ai:=ai) (b:=b) (o:=o) len (fun i hi=>h i (by omega)) (fun i hi=>hc i (by omega));have e:((bl (len+1)).map V).flatten=((bl len).map V).flatten++V len:=by
   rw[bv,bI,bo];simp
  have f:i<len*ai+ai:=by
   have:=Cd (V:=V) (ai:=ai) (len+1) h;rw[cb]at this;omega
  rw[<-bb hi,e]
  by_cases d:i<len*ai
  ·rw[List.getElem?_append_left (by omega),bb (by omega)];exact c i (by omega)
  ·rw[List.getElem?_append_right (by omega),a];have:=hc len (by omega) (i-len*ai) (by omega);rw[<-this];congr 3;omega
theorem uU:∀(n:Nat)(J:Nat)(t:ax)(cs:List av)(d:ay H)(r:List ap),ld P n t=true->a2 enc P w base (fun _=>true) held J t cs=some (d,r)->
 aY P w (fun k=>k<w.heap.size) (bG P n t d) cs
 |0,_,_,_,_,_,h,_=>by simp[ld]at h
 |n+1,J,t,cs,d,r,h,p=>by
  simp only[ld]at h
  split at h
  ·rename_i o;obtain⟨b,rfl,hx⟩:=DataW.trod_bool o p;cases hx;simp[bG,o,aY]
  ·rename_i k o;obtain⟨z,rfl,hx,E⟩:=DataW.trod_int o p;cases hx;simp[bG,o,E,aY]
  ·rename_i o;obtain⟨s,rfl,hx,_⟩:=DataW.trod_string o p;cases hx;simp[bG,o,aY]
  ·rename_i e o;simp only[ao,decide_eq_true_eq]at h;obtain⟨v,B⟩:=h;rcases open_slice o p with⟨rfl,hx⟩|⟨a,len,cap,m,k,D,S,rfl,ac,Y,af,O,hx,U⟩
   ·cases hx;simp[bG,o,aY]
   cases hx;simp only[if_true]at O;subst O;obtain⟨V,q⟩:=choose_lt U;have R:a.spot=none\/m=0:=by
    by_cases E:m=0
    ·exact .inr E
    left;obtain⟨c1,_⟩:=q 0 (by omega);obtain⟨_,c2,c3⟩:=a7 c1;have c4:=c3 0 B;rw[bb (by omega)]at c4;simp only[Addr.add,Nat.zero_mul,if_true]at c4;unfold a8 at c4
    split at c4
    ·split at c4
     ·cases c4
     ·rename_i hs;simpa using hs
    ·cases c4
   have M:∀i,i<m->∀j,j<P.cellsOf e->w.cell? ⟨a.block,a.off+(i*P.cellsOf e+j),none⟩=(V i)[j]?:=by
    intro i hi j X;have hs:a.spot=none:=R.resolve_right (by omega);obtain⟨_,_,c3⟩:=a7 (q i hi).1;have:=c3 j X;rw[add_add]at this;rw[<-this];obtain⟨F,G,I⟩:=a;simp only at hs;subst hs;unfold Addr.add;split<;>simp_all
   have A:∀i,i<m->(V i).length=P.cellsOf e:=fun i hi=>(a7 (q i hi).1).2.1;simp only[bG,o,aY];right;obtain⟨F,G,I⟩:=a;refine⟨F,G,m,P.cellsOf e,(bl len).map V,?_,?_,?_,by simpa using Y,I,R,by simp⟩
   ·have:=A7 (P:=P) (w:=w) (len:=len) (ai:=P.cellsOf e) (ad:=fun k=>k<w.heap.size) (f:=fun i=>bG P n e (D i)) (g:=V) (l:=bl len) (fun i hi=>by
     have hi:i<m:=by have:=b3.1 hi;omega
     exact⟨uU n k e (V i) (D i) (S i) v (q i hi).2,A i hi⟩)
    simpa[Function.comp_def]using this
   ·intro Z;have ab:0<len:=by
     rcases Nat.eq_zero_or_pos len with h|h
     ·subst h;simp at Z
     ·exact h
    have c:=M 0 (by omega) 0 B;rw[bb (by rw[A 0 (by omega)];exact B)]at c;unfold a8 at c
    split at c
    ·rename_i y;exact(am.1 y).1
    ·cases c
   ·exact HA len (fun i hi=>A i (by omega)) (fun i hi=>M i (by omega))
  ·rename_i fs o;simp only[ao,beq_iff_eq,List.all_eq_true]at h;obtain⟨⟨⟨u,K⟩,L⟩,T⟩:=h;obtain⟨xs,k,rfl,hx,hlen,C,hf⟩:=DataW.trod_struct o p;cases hx;have⟨g1,g2⟩:=LW (ad:=fun k=>k<w.heap.size) (fun t cs d r aa y=>uU n k t cs d r aa y) fs.toList xs 0 cs K (by simpa using C) T (by omega) (fun i f hi=>hf i f (by simpa using hi));simp only[bG,o,aY];refine⟨_,_,u,g1,?_⟩;rw[g2,List.drop_zero,b0 (by omega)]
  ·rename_i m e o;simp only[ao,beq_iff_eq]at h;obtain⟨⟨u,K⟩,L⟩:=h;obtain⟨xs,k,rfl,hx,hlen,C,hf⟩:=trod_array o p;cases hx;have Q:=A7 (P:=P) (w:=w) (len:=m) (ai:=P.cellsOf e) (ad:=fun k=>k<w.heap.size) (f:=fun i=>match xs[i]? with
     |some x=>bG P n e x.1
     |none=>.undef) (g:=fun i=>(cs.drop (i*P.cellsOf e)).take (P.cellsOf e)) (l:=bl m) (fun i hi=>by
      have hi:i<m:=b3.1 hi;have N:=hf i hi;rw[bb (by omega)]at N⊢;refine⟨uU n k e _ xs[i].1 xs[i].2 L N,?_⟩;have:(i+1)*P.cellsOf e<=m*P.cellsOf e:=Nat.mul_le_mul_right _ hi;rw[cb]at this;simp;omega)
   have v:((bl m).map fun i=>match xs[i]? with
    |some x=>bG P n e x.1
    |none=>.undef)=(xs.map (·.1)).map (bG P n e):=by
    apply List.ext_getElem
    ·simp[C]
    ·intro i W ae;simp at W;simp[bb (show i<xs.length by omega)]
   rw[v,List.length_range]at Q;simp only[bG,o,aY];refine⟨_,_,u,Q,?_⟩;rw[GW,b0 (by omega)]
  ·cases h
end
open Go.Proofs
def D4:Array av:=(Lib.pow10Tab.map fun z=>Value.int .u64 z).toArray
def aH4:Nat->Option (Array av)
 |3=>some D4
 |_=>none
instance Z4:Gl:=⟨fun _=>.undef,5,aH4,fun u=>bif Nat.beq u 359 then some 360 else none⟩
@[simp] theorem ki3:kindOf prog 3=.leaf:=by kernel_rfl
@[simp] theorem D8:prog.underlying 3=some (.int .i64):=by kernel_rfl
@[simp] theorem tz3:ct prog 3=some (.int .i64 (0)):=by kernel_rfl
@[simp] theorem ki4:kindOf prog 4=.leaf:=by kernel_rfl
@[simp] theorem ib4:qC prog 4=true:=by kernel_rfl
@[simp] theorem tz4:ct prog 4=some (.bool false):=by kernel_rfl
@[simp] theorem tz5:ct prog 5=some (.int .u8 (0)):=by kernel_rfl
@[simp] theorem ki9:kindOf prog 9=.leaf:=by kernel_rfl
@[simp] theorem D9:prog.underlying 9=some .string:=by kernel_rfl
@[simp] theorem at9:iI prog 9=true:=by kernel_rfl
@[simp] theorem tz9:ct prog 9=some (.str []):=by kernel_rfl
@[simp] theorem aLD:kindOf prog 22=.leaf:=by kernel_rfl
@[simp] theorem D7:prog.underlying 22=some .string:=by kernel_rfl
@[simp] theorem aNJ:ct prog 22=some (.str []):=by kernel_rfl
@[simp] theorem aLF:kindOf prog 24=.agg 23:=by kernel_rfl
@[simp] theorem aNe:eX prog 24=some (23,2):=by kernel_rfl
@[simp] theorem aNL:ct prog 24=some (.st 23 [.str [],.str []]):=by kernel_rfl
@[simp] theorem aLI:kindOf prog 28=.leaf:=by kernel_rfl
@[simp] theorem aNO:ct prog 28=some (.int .i64 (0)):=by kernel_rfl
@[simp] theorem aLQ:kindOf prog 44=.leaf:=by kernel_rfl
@[simp] theorem aI0:prog.underlying 44=some (.slice 179):=by kernel_rfl
@[simp] theorem aJY:iI prog 44=true:=by kernel_rfl
@[simp] theorem aKr:cC prog 44=some 2:=by kernel_rfl
@[simp] theorem aKI:dY prog 44=179:=by kernel_rfl
@[simp] theorem aLR:kindOf prog 45=.leaf:=by kernel_rfl
@[simp] theorem aI1:prog.underlying 45=some (.slice 161):=by kernel_rfl
@[simp] theorem aKs:cC prog 45=some 4:=by kernel_rfl
@[simp] theorem aLS:kindOf prog 46=.leaf:=by kernel_rfl
@[simp] theorem aI2:prog.underlying 46=some (.slice 163):=by kernel_rfl
@[simp] theorem aKt:cC prog 46=some 3:=by kernel_rfl
@[simp] theorem aLT:kindOf prog 48=.agg 47:=by kernel_rfl
@[simp] theorem aNg:eX prog 48=some (47,4):=by kernel_rfl
@[simp] theorem aLU:kindOf prog 52=.leaf:=by kernel_rfl
@[simp] theorem aJZ:iI prog 52=true:=by kernel_rfl
@[simp] theorem aKu:cC prog 52=some 4:=by kernel_rfl
@[simp] theorem aKJ:dY prog 52=175:=by kernel_rfl
@[simp] theorem aLV:kindOf prog 53=.leaf:=by kernel_rfl
@[simp] theorem aJ0:iI prog 53=true:=by kernel_rfl
@[simp] theorem aKv:cC prog 53=some 3:=by kernel_rfl
@[simp] theorem aKK:dY prog 53=176:=by kernel_rfl
@[simp] theorem aLW:kindOf prog 55=.agg 54:=by kernel_rfl
@[simp] theorem aNh:eX prog 55=some (54,4):=by kernel_rfl
@[simp] theorem aNV:ct prog 55=some (.st 54 [.aO,.int .i64 (0),.aO,.aO]):=by kernel_rfl
@[simp] theorem aLX:kindOf prog 72=.leaf:=by kernel_rfl
@[simp] theorem aI3:prog.underlying 72=some (.slice 216):=by kernel_rfl
@[simp] theorem aKw:cC prog 72=some 3:=by kernel_rfl
@[simp] theorem aLY:kindOf prog 74=.agg 73:=by kernel_rfl
@[simp] theorem aNi:eX prog 74=some (73,4):=by kernel_rfl
@[simp] theorem aLZ:kindOf prog 79=.leaf:=by kernel_rfl
@[simp] theorem aJ1:iI prog 79=true:=by kernel_rfl
@[simp] theorem aKx:cC prog 79=some 3:=by kernel_rfl
@[simp] theorem aKL:dY prog 79=124:=by kernel_rfl
@[simp] theorem aL0:kindOf prog 81=.agg 80:=by kernel_rfl
@[simp] theorem aNj:eX prog 81=some (80,4):=by kernel_rfl
@[simp] theorem aNW:ct prog 81=some (.st 80 [.st 54 [.aO,.int .i64 (0),.aO,.aO],.aO,.str [],.str []]):=by kernel_rfl
@[simp] theorem aL1:kindOf prog 83=.leaf:=by kernel_rfl
@[simp] theorem aJ2:iI prog 83=true:=by kernel_rfl
@[simp] theorem aKy:cC prog 83=some 1:=by kernel_rfl
@[simp] theorem aKM:dY prog 83=3:=by kernel_rfl
@[simp] theorem aJX:iI prog 119=true:=by kernel_rfl
@[simp] theorem aKk:cC prog 119=some 1:=by kernel_rfl
@[simp] theorem aKB:dY prog 119=9:=by kernel_rfl
@[simp] theorem aLm:kindOf prog 124=.agg 123:=by kernel_rfl
@[simp] theorem aM0:eX prog 124=some (123,2):=by kernel_rfl
@[simp] theorem aNw:ct prog 124=some (.st 123 [.str [],.st 23 [.str [],.str []]]):=by kernel_rfl
@[simp] theorem aLn:kindOf prog 126=.agg 126:=by kernel_rfl
@[simp] theorem aJT:gW prog 126=some (126,2):=by kernel_rfl
@[simp] theorem aNx:ct prog 126=some (.st 126 [.st 23 [.str [],.str []],.st 23 [.str [],.str []]]):=by kernel_rfl
@[simp] theorem aLo:kindOf prog 127=.leaf:=by kernel_rfl
@[simp] theorem aKl:cC prog 127=some 1:=by kernel_rfl
@[simp] theorem aKC:dY prog 127=309:=by kernel_rfl
@[simp] theorem aLp:kindOf prog 129=.agg 128:=by kernel_rfl
@[simp] theorem aM1:eX prog 129=some (128,2):=by kernel_rfl
@[simp] theorem aNy:ct prog 129=some (.st 128 [.int .i64 (0),.aO]):=by kernel_rfl
@[simp] theorem aLq:kindOf prog 131=.agg 130:=by kernel_rfl
@[simp] theorem aM2:eX prog 131=some (130,2):=by kernel_rfl
@[simp] theorem aNz:ct prog 131=some (.st 130 [.st 128 [.int .i64 (0),.aO],.st 128 [.int .i64 (0),.aO]]):=by kernel_rfl
@[simp] theorem aLr:kindOf prog 133=.agg 132:=by kernel_rfl
@[simp] theorem aM3:eX prog 133=some (132,2):=by kernel_rfl
@[simp] theorem aNA:ct prog 133=some (.st 132 [.st 130 [.st 128 [.int .i64 (0),.aO],.st 128 [.int .i64 (0),.aO]],.st 130 [.st 128 [.int .i64 (0),.aO],.st 128 [.int .i64 (0),.aO]]]):=by kernel_rfl
@[simp] theorem aLs:kindOf prog 155=.leaf:=by kernel_rfl
@[simp] theorem aKm:cC prog 155=some 1:=by kernel_rfl
@[simp] theorem aKD:dY prog 155=22:=by kernel_rfl
@[simp] theorem aLt:kindOf prog 161=.agg 160:=by kernel_rfl
@[simp] theorem aM4:eX prog 161=some (160,4):=by kernel_rfl
@[simp] theorem aNB:ct prog 161=some (.st 160 [.str [],.int .i64 (0),.str [],.str []]):=by kernel_rfl
@[simp] theorem aLu:kindOf prog 163=.agg 123:=by kernel_rfl
@[simp] theorem aM5:eX prog 163=some (123,2):=by kernel_rfl
@[simp] theorem aNC:ct prog 163=some (.st 123 [.str [],.st 23 [.str [],.str []]]):=by kernel_rfl
@[simp] theorem aLv:kindOf prog 167=.agg 166:=by kernel_rfl
@[simp] theorem aM6:eX prog 167=some (166,3):=by kernel_rfl
@[simp] theorem aND:ct prog 167=some (.st 166 [.int .i64 (0),.st 132 [.st 130 [.st 128 [.int .i64 (0),.aO],.st 128 [.int .i64 (0),.aO]],.st 130 [.st 128 [.int .i64 (0),.aO],.st 128 [.int .i64 (0),.aO]]],.st 132 [.st 130 [.st 128 [.int .i64 (0),.aO],.st 128 [.int .i64 (0),.aO]],.st 130 [.st 128 [.int .i64 (0),.aO],.st 128 [.int .i64 (0),.aO]]]]):=by kernel_rfl
@[simp] theorem aLw:kindOf prog 175=.agg 160:=by kernel_rfl
@[simp] theorem aM7:eX prog 175=some (160,4):=by kernel_rfl
@[simp] theorem aNE:ct prog 175=some (.st 160 [.str [],.int .i64 (0),.str [],.str []]):=by kernel_rfl
@[simp] theorem aLx:kindOf prog 176=.agg 123:=by kernel_rfl
@[simp] theorem aM8:eX prog 176=some (123,2):=by kernel_rfl
@[simp] theorem aNF:ct prog 176=some (.st 123 [.str [],.st 23 [.str [],.str []]]):=by kernel_rfl
@[simp] theorem aLy:kindOf prog 179=.agg 178:=by kernel_rfl
@[simp] theorem aM9:eX prog 179=some (178,2):=by kernel_rfl
@[simp] theorem aNG:ct prog 179=some (.st 178 [.int .i64 (0),.int .i64 (0)]):=by kernel_rfl
@[simp] theorem aLz:kindOf prog 193=.leaf:=by kernel_rfl
@[simp] theorem aLA:kindOf prog 195=.agg 194:=by kernel_rfl
@[simp] theorem aNa:eX prog 195=some (194,4):=by kernel_rfl
@[simp] theorem aNH:ct prog 195=some (.st 194 [.st 54 [.aO,.int .i64 (0),.aO,.aO],.aO,.fc,.st 130 [.st 128 [.int .i64 (0),.aO],.st 128 [.int .i64 (0),.aO]]]):=by kernel_rfl
@[simp] theorem aLB:kindOf prog 197=.agg 196:=by kernel_rfl
@[simp] theorem aNb:eX prog 197=some (196,2):=by kernel_rfl
@[simp] theorem aLC:kindOf prog 216=.agg 123:=by kernel_rfl
@[simp] theorem aNc:eX prog 216=some (123,2):=by kernel_rfl
@[simp] theorem aNI:ct prog 216=some (.st 123 [.str [],.st 23 [.str [],.str []]]):=by kernel_rfl
@[simp] theorem aLE:kindOf prog 223=.agg 222:=by kernel_rfl
@[simp] theorem aNd:eX prog 223=some (222,2):=by kernel_rfl
@[simp] theorem aNK:ct prog 223=some (.st 222 [.bool false,.aO]):=by kernel_rfl
@[simp] theorem aKn:cC prog 238=some 1:=by kernel_rfl
@[simp] theorem aKE:dY prog 238=28:=by kernel_rfl
@[simp] theorem aLG:kindOf prog 265=.leaf:=by kernel_rfl
@[simp] theorem aNM:ct prog 265=some (.gD):=by kernel_rfl
@[simp] theorem aKo:cC prog 266=some 1:=by kernel_rfl
@[simp] theorem aKF:dY prog 266=265:=by kernel_rfl
@[simp] theorem aLH:kindOf prog 271=.agg 270:=by kernel_rfl
@[simp] theorem aJU:gW prog 271=some (270,2):=by kernel_rfl
@[simp] theorem aNN:ct prog 271=some (.st 270 [.st 130 [.st 128 [.int .i64 (0),.aO],.st 128 [.int .i64 (0),.aO]],.st 130 [.st 128 [.int .i64 (0),.aO],.st 128 [.int .i64 (0),.aO]]]):=by kernel_rfl
@[simp] theorem aKp:cC prog 304=some 2:=by kernel_rfl
@[simp] theorem aKG:dY prog 304=24:=by kernel_rfl
@[simp] theorem aLK:kindOf prog 309=.leaf:=by kernel_rfl
@[simp] theorem aNQ:ct prog 309=some (.int .u64 (0)):=by kernel_rfl
@[simp] theorem aLL:kindOf prog 333=.agg 333:=by kernel_rfl
@[simp] theorem aJV:gW prog 333=some (333,2):=by kernel_rfl
@[simp] theorem aNR:ct prog 333=some (.st 333 [.st 270 [.st 130 [.st 128 [.int .i64 (0),.aO],.st 128 [.int .i64 (0),.aO]],.st 130 [.st 128 [.int .i64 (0),.aO],.st 128 [.int .i64 (0),.aO]]],.st 270 [.st 130 [.st 128 [.int .i64 (0),.aO],.st 128 [.int .i64 (0),.aO]],.st 130 [.st 128 [.int .i64 (0),.aO],.st 128 [.int .i64 (0),.aO]]]]):=by kernel_rfl
@[simp] theorem aLM:kindOf prog 358=.leaf:=by kernel_rfl
@[simp] theorem aKq:cC prog 358=some 1:=by kernel_rfl
@[simp] theorem aKH:dY prog 358=5:=by kernel_rfl
@[simp] theorem aLN:kindOf prog 360=.agg 359:=by kernel_rfl
@[simp] theorem aNf:eX prog 360=some (359,2):=by kernel_rfl
@[simp] theorem aNS:ct prog 360=some (.st 359 [.dH,.aO]):=by kernel_rfl
@[simp] theorem aLP:kindOf prog 411=.agg 410:=by kernel_rfl
@[simp] theorem aJW:gW prog 411=some (410,256):=by kernel_rfl
@[simp] theorem aII:dx prog 23=some [1,1]:=by kernel_rfl
@[simp] theorem aIJ:dx prog 47=some [1,1,1,1]:=by kernel_rfl
@[simp] theorem aNu:dx prog 54=some [1,1,1,1]:=by kernel_rfl
@[simp] theorem aIK:dx prog 73=some [4,1,1,1]:=by kernel_rfl
@[simp] theorem aNv:dx prog 80=some [4,1,1,1]:=by kernel_rfl
@[simp] theorem Qs:dx prog 123=some [1,2]:=by kernel_rfl
@[simp] theorem aNk:dx prog 126=some [2,2]:=by kernel_rfl
@[simp] theorem aNl:dx prog 128=some [1,1]:=by kernel_rfl
@[simp] theorem aNm:dx prog 130=some [2,2]:=by kernel_rfl
@[simp] theorem aNn:dx prog 132=some [4,4]:=by kernel_rfl
@[simp] theorem aIG:dx prog 160=some [1,1,1,1]:=by kernel_rfl
@[simp] theorem aNo:dx prog 166=some [1,8,8]:=by kernel_rfl
@[simp] theorem aIH:dx prog 178=some [1,1]:=by kernel_rfl
@[simp] theorem aNp:dx prog 194=some [4,1,1,4]:=by kernel_rfl
@[simp] theorem aNq:dx prog 196=some [10,7]:=by kernel_rfl
@[simp] theorem aNr:dx prog 222=some [1,1]:=by kernel_rfl
@[simp] theorem aNs:dx prog 270=some [4,4]:=by kernel_rfl
@[simp] theorem aNt:dx prog 333=some [8,8]:=by kernel_rfl
set_option maxRecDepth 100000
section
variable{H:Type}{w:a0}{ad:Nat->Prop}
theorem EG{P:aT}:∀{l:List Nat}{d:List PV}{b:List (List av)},bk P w ad l d b->∀e∈d,∃c,aY P w ad e c
 |_,[],_,_=>fun e a=>by cases a
 |[],v::vs,_,h=>by simp[bk]at h
 |n::i,v::vs,b,h=>by
  simp only[bk]at h;obtain⟨c,cs,_,f,_,g⟩:=h;intro e a;rcases bV.1 a with rfl|a
  ·exact⟨c,f⟩
  ·exact EG g e a
theorem tZ{n:Nat}(d:ay H)(c)(h:aY prog w ad (bG prog (n+1) 3 d) c):∃z:Int,bG prog (n+1) 3 d=.int .i64 z:=by
 cases d with
 |lit l=>
  cases l with
  |int k z=>
   simp only[bG,D8]at h⊢
   split at h
   ·rename_i a;rw[if_pos a];exact⟨_,rfl⟩
   ·simp only[aY]at h
  |_=>simp only[bG,D8,aY]at h
 |_=>simp only[bG,D8,aY]at h
end
theorem GG{P:aT}{W:a0}{name:String}{d:ay Unit}:∀{l:List (String×ay Unit)}{b:List ap},DataW.LaidVars P W l b->(name,d)∈l->
 ∃g t cs a p,P.globalNamed name=some g/\(P.globals[g]?).map (·.type)=some t/\W.var? P name=some cs/\a2 (fun _=>()) P W 0 (fun _=>true) false a t cs.toList=some (d,p)/\∀x∈MemPlace.row ⟨g,0,none⟩ cs.size,x∈b
 |[],_,_,h=>by cases h
 |(n,d0)::r,b,h,hm=>by
  obtain⟨g,t,cs,a,p,q,j,k,m,o,s,rfl⟩:=h;rcases bV.1 hm with e|hm
  ·cases e;exact⟨g,t,cs,a,p,j,k,m,o,fun x hx=>by simp[hx]⟩
  ·obtain⟨i,v,c,f,u,k1,k2,k3,k4,k5⟩:=GG s hm;exact⟨i,v,c,f,u,k1,k2,k3,k4,fun x hx=>by simp[k5 x hx]⟩
open Go.Proofs Go.Proofs.YtanjnahmbanmaaaGreatDoor
theorem IJ:prog.globalNamed "internal/strconv.uint64pow10" =some 3:=by kernel_rfl
theorem TN:((Rows.aimContactsUptoRow.laid).filter fun x=>x.2.handleName?.isSome)=[]:=by kernel_rfl
theorem aHX:(prog.globals[3]?).map (·.type)=some 417:=by kernel_rfl
theorem aHY:prog.underlying 417=some (.array 20 309):=by kernel_rfl
theorem aHV:prog.underlying 309=some (.int .u64):=by kernel_rfl
theorem aHT:prog.cellsOf 309=1:=by kernel_rfl
theorem aHU:prog.cellsOf 417=20:=by kernel_rfl
theorem Z5{W:a0}(h:laidMetH prog Rows.aimContactsUptoRow.laid W):mB prog W (fun k=>k<W.heap.size):=by
 unfold laidMetH at h;rw[TN]at h;obtain⟨n,j,_,l⟩:=h;obtain⟨g,t,cs,fuel,p,k1,k2,k3,k4,k5⟩:=GG (name:= "internal/strconv.uint64pow10") (d:=Lib.tabData .u64 Lib.pow10Tab) j (by
  show _∈[_,_,_,_,_,_,_];exact be _ (be _ bi))
 rw[IJ]at k1;cases k1;rw[aHX]at k2;cases k2;have f:=Lib.cells_of_tab aHY aHV aHT aHU k4;have e:cs=D4:=by rw[D4,<-f]
 have i:0<cs.size:=by rw[e];decide
 obtain⟨⟨c,T,b⟩,_⟩:=l 3 0 (k5 _ (by simp[MemPlace.row];exact i));refine⟨fun g=>by simp[aD,Gl.g],fun g m a=>?_⟩
 match g,a with
 |3,a=>
  cases a;refine⟨(am.1 b).1,T,?_⟩;simp only[World.var?,IJ,Option.bind_some,b,Option.some.injEq]at k3;rw[b,k3,e]
section
variable[Gl]{P:aT}
theorem XI{f:FuncId}{args:List PV}{v:PV}(g:Enters P f)(h:au P f args v){w:a0}{ad:Nat->Prop}{a:List av}(d:∀k,ad k->k<w.heap.size)(i:mB P w ad)(c:bJ P w ad args a):
 Calls P f a.toArray w fun e w'=>∃b,∃aF:Nat->Prop,e=.returned b/\w.heap.size<=w'.heap.size/\(∀k,k<w.heap.size->w'.heap[k]?=w.heap[k]?)/\(w'.os=w.os/\w'.output=w.output)/\aD P w' aF v b:=by
 rcases h with h|h
 ·refine(h.2 w ad a d i c).mono ?_;rintro e w' ⟨b,aF,k1,_,_,_,k5,k6,j,k7⟩;exact⟨b,aF,k1,k5,k6,j,k7⟩
 ·obtain⟨b,k1,_⟩:=h w ad a c;rw[g a.toArray w]at k1;cases k1
theorem aGU{w w':a0}(h:∀k,k<w.heap.size->w'.heap[k]?=w.heap[k]?)(a:w'.os=w.os/\w'.output=w.output)(b:ap->Prop):w.keptBut w' b:=by
 refine⟨a.1,a.2,fun i hi=>?_⟩;rw[h i hi];cases w.heap[i]? with
 |none=>rfl
 |some o=>cases o<;>first|exact⟨rfl,rfl,rfl,fun _ _=>rfl⟩|exact .inr ⟨rfl,rfl⟩|rfl
theorem aIk{w w':a0}(h:∀k,k<w.heap.size->w'.heap[k]?=w.heap[k]?){p:ap}(a:p.block<w.heap.size):w.sameAt w' p:=by
 cases p with
 |cell b o=>simp only[a9,a8];rw[h b a]
 |map b=>simp only[a9];rw[h b a]
theorem Uc{H:Type}{e:ax×av->H}{f:Func}{s:a1}{apart fresh handsOn:Bool}{W c:a0}{args:Array av}{v:av}{d g:List (ay H)}{a pa pv:List ap}
 (j:a4 e P f.params.toList s.vars apart W args.toList d g a)
 (o:∀(b:Nat)(sp:Nat->Bool)(m:Bool),a3 e P c b sp m f.resultTypes.toList (v.resultList f.resultTypes.size) (s.fn H (d++g)).results [])
 (l:∀sp:Nat->Bool,(∀p∈a,sp p.block=true)->a3 e P c 0 sp true f.params.toList args.toList (s.fn H (d++g)).args pa)
 (q:∀sp:Nat->Bool,(∀p∈a,sp p.block=true)->DataW.TrodVars e P c sp s.vars (s.fn H (d++g)).vars pv)
 (n:a=pa++pv)(hk:W.keptBut c (·∈a)):s.post e P f apart fresh handsOn false W args v c:=by
 have k:∀p∈a,(fun b=>decide (b<W.heap.size)) p.block=true:=fun p i=>by simpa using j.lt p i
 refine⟨d,g,a,[],pa,pv,j,o _ _ _,l _ k,q _ k,World.keptBut_mono (fun p i=>⟨i,?_⟩) hk,fun h=>by cases h⟩;rw[n,List.mem_append]at i;exact Or.inr i
end
section
variable{H:Type}{enc:ax×av->H}{P:aT}{w:a0}
theorem Wg{n:Nat}{t:ax}{d:ay H}{cs:List av}{ad:Nat->Prop}(h:aY P w ad (bG P n t d) cs):
 (((∃fs,P.underlying t=some (.struct fs))\/∃m e,P.underlying t=some (.array m e))/\∃u,aL (bG P n t d)=.agg u)\/((P.underlying t=some .bool\/(∃k,P.underlying t=some (.int k))\/P.underlying t=some .string\/∃e,P.underlying t=some (.slice e))/\aL (bG P n t d)=.leaf):=by
 cases n with
 |zero=>simp only[bG,aY]at h
 |succ n=>
  unfold bG at h⊢
  split at h
  ·rename_i a;exact .inr ⟨.inl a,rfl⟩
  ·rename_i k z a
   split at h
   ·rename_i b;rw[if_pos b];exact .inr ⟨.inr (.inl ⟨_,a⟩),rfl⟩
   ·simp only[aY]at h
  ·rename_i a;exact .inr ⟨.inr (.inr (.inl a)),rfl⟩
  ·rename_i a;exact .inr ⟨.inr (.inr (.inr ⟨_,a⟩)),rfl⟩
  ·rename_i a;exact .inr ⟨.inr (.inr (.inr ⟨_,a⟩)),rfl⟩
  ·rename_i a;exact .inl ⟨.inl ⟨_,a⟩,_,rfl⟩
  ·rename_i a;exact .inl ⟨.inr ⟨_,_,a⟩,_,rfl⟩
  ·simp only[aY]at h
theorem We[Gl]{n:Nat}{t:ax}{v:av}{d:ay H}{f:List ap}{g i:Nat}{r:Reach}(j:ld P n t=true)(h:DataW.Trod enc P w g (fun _=>true) true t v d f)(b:a5 P w r i t v):
 aD P w (fun k=>k<w.heap.size) (bG P n t d) v:=by
 obtain⟨fuel,h⟩:=h;have hc:=uU n fuel t _ d f j h;rcases Wg hc with⟨a,u,hs⟩|⟨a,hs⟩
 ·have:∃cs,v=.agg cs:=by
   rcases a with⟨fs,a⟩|⟨m,e,a⟩
   ·simp only[a5,a]at b;obtain⟨cs,rfl,_,_⟩:=b;exact⟨cs,rfl⟩
   ·simp only[a5,a]at b;obtain⟨cs,rfl,_,_⟩:=b;exact⟨cs,rfl⟩
  obtain⟨cs,rfl⟩:=this;rw[u6 hs]at hc;simpa[a6]using hc
 ·rw[sF hs]at hc;obtain⟨c,hc,l⟩:=hc;have:v=c:=by
   cases v with
   |agg cs=>rcases a with a|⟨k,a⟩|a|⟨e,a⟩<;>simp[a5,a,Cell.okWide,Cell.ok]at b
   |_=>simpa[a6]using hc
  rw[this];exact l
def qS(P:aT)(n:Nat):List ax->List (ay H)->List PV
 |t::ts,d::ds=>bG P n t d::qS P n ts ds
 |_,_=>[]
theorem Bz[Gl]{n:Nat}{base:Nat}{r:Reach}:∀{ts:List ax}{vs:List av}{ds:List (ay H)}{h:List ap},(∀t∈ts,ld P n t=true)->a3 enc P w 0 (fun _=>true) true ts vs ds h->
 (∀(j:Nat) t v,ts[j]?=some t->vs[j]?=some v->a5 P w r base t v)->bJ P w (fun k=>k<w.heap.size) (qS P n ts ds) vs/\ds.length=ts.length
 |[],[],[],_,_,_,_=>by simp[qS,bJ]
 |t::ts,v::vs,d::ds,_,b,⟨p,q,e,f,_⟩,c=>by
  have⟨i1,i2⟩:=Bz (ts:=ts) (vs:=vs) (ds:=ds) (fun t a=>b t (be _ a)) f (fun j t v a g=>c (j+1) t v (by simpa using a) (by simpa using g));refine⟨?_,by simp[i2]⟩;simp only[qS,bJ];exact⟨v,vs,rfl,We (b t bi) e (c 0 t v rfl rfl),i1⟩
theorem Jp{n:Nat}:∀{ts:List ax}{vs:List av}{ds:List (ay H)}{g:List ap},(∀t∈ts,ld P n t=true)->a3 enc P w 0 (fun _=>true) true ts vs ds g->
 ∀p∈ts.zip ds,∃cs,aY P w (fun k=>k<w.heap.size) (bG P n p.1 p.2) cs
 |[],[],[],_,_,_=>by simp
 |t::ts,v::vs,d::ds,_,a,⟨p,q,⟨fuel,b⟩,c,_⟩=>by
  have f:=Jp (ts:=ts) (vs:=vs) (ds:=ds) (fun t e=>a t (be _ e)) c;intro x hx;rw[b1]at hx;rcases bV.1 hx with rfl|hx
  ·exact⟨_,uU n fuel t _ d p (a t bi) b⟩
  ·exact f x hx
theorem Gz{w':a0}{f:Nat}{g:Nat->Bool}{held:Bool}:∀{c:List ax}{vs:List av}{a:List (ay H)}{b:List ap},a3 enc P w f g held c vs a b->(∀p∈b,w.sameAt w' p)->
 a3 enc P w' f g held c vs a b
 |[],[],[],_,h,_=>h
 |t::c,v::vs,d::a,_,⟨p,q,⟨n,i⟩,j,e⟩,hs=>by
  subst e;exact⟨p,q,⟨n,DataW.trod_carry n _ _ _ i fun x hx=>hs x (List.mem_append_left _ hx)⟩,Gz j fun x hx=>hs x (List.mem_append_right _ hx),rfl⟩
theorem SL[Gl]{f:FuncId}{fn:Func}{s:a1}{n:Nat}{T:ax->Prop}(u:s.vars=[])(D:∀(H:Type)(a:List (ay H)),a.length=fn.params.size->(s.fn H a).results=[.lit (.bool true)]/\(s.fn H a).args=a/\(s.fn H a).vars=[])
 (K:Kids P T)(O:∀t e,T t->P.underlying t=some (.slice e)->0<P.cellsOf e)(z:∀t∈fn.params.toList,T t)(r:∀t∈fn.params.toList,ld P n t=true){tb:ax}(J:fn.resultTypes=#[tb])(B:P.underlying tb=some .bool)
 (C:Enters P f){W:a0}{args:Array av}{a c:List (ay H)}{y:List ap}{w:Nat}(E:mB P W (fun k=>k<W.heap.size))
 (F:(∀p∈fn.params.toList.zip a,∃cs,aY P W (fun k=>k<W.heap.size) (bG P n p.1 p.2) cs)->au P f (qS P n fn.params.toList a) (.bool true))
 (N:∀(j:Nat) t v,fn.params[j]?=some t->args[j]?=some v->a5 P W .any w t v)
 (o:a4 enc P fn.params.toList s.vars false W args.toList a c y):
 Calls P f args W fun e l=>∃v,e=.returned v/\s.post enc P fn false true false false W args v l:=by
 have A:=o;obtain⟨p,q,d,h,rfl,R,S⟩:=o;rw[u]at h;have⟨i,hlen⟩:=Bz r d (fun j t v L M=>N j t v (by simpa using L) (by simpa using M));have G:c=[]/\q=[]:=by
  cases c with
  |nil=>exact⟨rfl,h⟩
  |cons g c=>exact h.elim
 obtain⟨rfl,rfl⟩:=G;have hc:=XI C (F (Jp r d)) (fun k hk=>hk) E i;refine hc.mono ?_;rintro e l ⟨m,aF,rfl,k1,k2,k3,k4⟩;refine⟨m,rfl,?_⟩;obtain⟨f1,f2,f3⟩:=D H (a++[]) (by simpa using hlen);have e1:m=.bool true:=by simpa[aD]using k4
 have I:=DataW.TrodAll.lt d;refine Uc (pa:=p) (pv:=[]) A ?_ ?_ ?_ rfl (aGU k2 k3 _)
 ·intro b sp Q;rw[f1,J,e1];refine⟨[],[],⟨1,?_⟩,rfl,rfl⟩;simp[a2,B,a6]
 ·intro sp hs;rw[f2];simp only[List.append_nil]at hs⊢;exact Gz (DataW.TrodAll.respare K O z d fun p i=>hs p i) fun x hx=>aIk k2 (I x hx)
 ·intro sp hs;rw[f3,u];rfl
end
end Go.ak
