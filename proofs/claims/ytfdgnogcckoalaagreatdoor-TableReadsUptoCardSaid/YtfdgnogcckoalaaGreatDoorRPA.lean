import Derived.Test.YtfdgnogcckoalaaGreatDoorRThC
import Derived.Deep.Slices
import Derived.Test.YtfdgnogcckoalaaGreatDoorProg
import Derived.KernelRfl
import Derived.Lib.ItoaNum
import Derived.Test.YtfdgnogcckoalaaGreatDoorRows
import Derived.Lib.LaidTab
import Derived.ReadAgain
import Derived.ChangeOld
import Derived.RowKit3
import Derived.ChangeSame
import Derived.WideShapes
/- Parts of a proof. -/
set_option maxRecDepth 100000
set_option linter.unusedSimpArgs false
set_option linter.unusedVariables false
set_option linter.unusedSectionVars false
open Go.Proofs.Tryz
open Array renaming getElem?_eq_some_iff->am
open Bool renaming and_eq_true->ao
open Go renaming MemPlace->ap, Value->av, TypeId->ax, DataW->ay, Program->aT, World->a0, ChangeSpec->a1
open Go.DataW renaming trod->a2, TrodAll->a3, Whole->a4
open Go.MemPlace renaming row->a5
open Go.Value renaming okWide->a6, cells->a7
open Go.World renaming cells?_some->a8, cell?->a9, var?->bb, sameAt->be
open List renaming mem_cons_of_mem->bi, mem_cons_self->bk, getElem?_eq_getElem->bl, range->bo, flatten_append->bv, map_cons->b0, range_succ->b1, map_append->b2, mem_cons->b3, take_of_length_le->b4, zip_cons_cons->b5, replicate->cb, mem_range->cc, take_add->ce, sum_cons->ck
open Nat renaming succ_mul->cv, eq_of_beq_eq_true->cx, beq->cy
open Option renaming bind_some->cE
open Option.some renaming injEq->cN
namespace Go.au
open Go.Deep
section
variable{H:Type}
def bH(P:aT):Nat->ax->ay H->PV
 |0,_,_=>.undef
 |n+1,t,d=>match P.underlying t,d with
  |some .bool,.lit (.bool b)=>.bool b
  |some (.int k),.lit (.int _ z)=>if(Lit.int k z).wf=true then .int k z else .undef
  |some .string,.lit (.string s)=>.str (s.map (·.toNat))
  |some (.slice e),.slice ds _=>.seq (ds.map (bH P n e))
  |some (.slice _),.nil=>.seq []
  |some (.struct fs),.agg ds=>.st (P.underlyingId t) ((fs.toList.zip ds).map fun p=>bH P n p.1.type p.2)
  |some (.array _ e),.agg ds=>.st (P.underlyingId t) (ds.map (bH P n e))
  |_,_=>.undef
def zZ(P:aT):Nat->List Field->Bool
 |_,[]=>true
 |o,f::fs=>(f.offset==o)&&zZ P (o+P.cellsOf f.type) fs
def lX(P:aT):Nat->ax->Bool
 |0,_=>false
 |n+1,t=>match P.underlying t with
  |some .bool|some (.int _)|some .string=>true
  |some (.slice e)=>lX P n e&&decide (0<P.cellsOf e)
  |some (.struct fs)=>(dL P (P.underlyingId t)==some (fs.toList.map fun f=>P.cellsOf f.type))&&zZ P 0 fs.toList&&(((fs.toList.map fun f=>P.cellsOf f.type).sum)==P.cellsOf t)&&fs.toList.all fun f=>lX P n f.type
  |some (.array m e)=>(dL P (P.underlyingId t)==some (cb m (P.cellsOf e)))&&(m*P.cellsOf e==P.cellsOf t)&&lX P n e
  |_=>false
variable{enc:ax×av->H}{P:aT}{w:a0}{base:Nat}{held:Bool}
theorem O1{n k:Nat}{aa:Nat->Prop}(j:∀t cs d s,lX P n t=true->a2 enc P w base (fun _=>true) held k t cs=some (d,s)->aV P w aa (bH P n t d) cs):
 ∀(fs:List Field)(a:List (ay H×List ap))(o:Nat)(cs:List av),zZ P o fs=true->a.length=fs.length->(∀f∈fs,lX P n f.type=true)->o+(fs.map fun f=>P.cellsOf f.type).sum<=cs.length->
  (∀(i:Nat)(f:Field),fs[i]?=some f->a2 enc P w base (fun _=>true) held k f.type ((cs.drop f.offset).take (P.cellsOf f.type))=a[i]?)->
  bg P w aa (fs.map fun f=>P.cellsOf f.type) ((fs.zip (a.map (·.1))).map fun p=>bH P n p.1.type p.2) (fs.map fun f=>(cs.drop f.offset).take (P.cellsOf f.type))/\
   (fs.map fun f=>(cs.drop f.offset).take (P.cellsOf f.type)).flatten=(cs.drop o).take (fs.map fun f=>P.cellsOf f.type).sum
 |[],a,o,cs,_,hl,_,_,_=>by
  have:a=[]:=by simpa using hl
  subst this;simp[bg]
 |f::fs,[],o,cs,_,hl,_,_,_=>by simp at hl
 |f::fs,x::a,o,cs,b,hl,e,hlen,hx=>by
  simp only[zZ,ao,beq_iff_eq]at b;obtain⟨b,r⟩:=b;simp only[b0,ck]at hlen;have h:=hx 0 f rfl;simp only[List.getElem?_cons_zero]at h;have l:=j _ _ x.1 x.2 (e f bk) h;have⟨m,q⟩:=O1 j fs a (o+P.cellsOf f.type) cs r (by simpa using hl) (fun g c=>e g (bi _ c)) o_ (fun i g c=>by have:=hx (i+1) g (by simpa using c);simpa using this);refine⟨?_,?_⟩
  ·simp only[b0,b5,bg];exact⟨_,_,rfl,l,by simp[b];omega,m⟩
  ·simp only[b0,List.flatten_cons,ck,q,b];rw[<-List.drop_drop,ce]
theorem Cn{ai len:Nat}{aa:Nat->Prop}{f:Nat->PV}{g:Nat->List av}:∀{l:List Nat},(∀i∈l,aV P w aa (f i) (g i)/\(g i).length=ai)->bg P w aa (cb l.length ai) (l.map f) (l.map g)
 |[],_=>by simp[bg]
 |a::l,h=>by
  simp only[List.length_cons,List.replicate_succ,b0,bg];exact⟨_,_,rfl,(h a bk).1,(h a bk).2,Cn (len:=len) fun i hi=>h i (bi _ hi)⟩
theorem trod_array{m:Nat}{e t:ax}{b:Nat}{cs:List av}{x:ay H×List ap}{d:Nat->Bool}(g:P.underlying t=some (.array m e))(h:a2 enc P w base d held b t cs=some x):
 ∃(a:List (ay H×List ap))(n:Nat),b=n+1/\x=(.agg (a.map (·.1)),a.flatMap (·.2))/\cs.length=P.cellsOf t/\a.length=m/\
  ∀i,i<m->a2 enc P w base d held n e ((cs.drop (i*P.cellsOf e)).take (P.cellsOf e))=a[i]?:=by
 cases b with
 |zero=>simp[a2]at h
 |succ n=>
  unfold a2 at h;rw[g]at h
  split at h<;>simp_all
  obtain⟨hl,a,c,f⟩:=h;exact⟨a,f.symm,by simpa using mapM_some_length c,fun i hi=>mapM_some_get c i i (by simp[hi])⟩
theorem JT{α:Type}{cs:List α}{ai:Nat}:∀m,((bo m).map fun i=>(cs.drop (i*ai)).take ai).flatten=cs.take (m*ai)
 |0=>by simp
 |m+1=>by
  rw[b1,b2,bv,JT m,cv,ce];simp
theorem Dj{V:Nat->List av}{ai:Nat}:∀(len:Nat),(∀i,i<len->(V i).length=ai)->((bo len).map V).flatten.length=len*ai
 |0,_=>by simp
 |len+1,h=>by
  rw[b1,b2,bv,List.length_append,Dj len fun i hi=>h i o_,cv];simp[h len o_]
theorem Ks{V:Nat->List av}{ai b o:Nat}:∀(len:Nat),(∀i,i<len->(V i).length=ai)->(∀i,i<len->∀j,j<ai->w.cell? ⟨b,o+(i*ai+j),none⟩=(V i)[j]?)->ic w b o ((bo len).map V).flatten
 |0,_,_=>by intro i hi;simp at hi
 |len+1,h,hc=>by
  intro i hi;have hl:=Dj (V:=V) (ai:=ai) len fun i hi=>h i o_;have a:=Ks (V:=V) (ai:=ai) (b:=b) (o:=o) len (fun i hi=>h i o_) (fun i hi=>hc i o_);have e:((bo (len+1)).map V).flatten=((bo len).map V).flatten++V len:=by
   rw[b1,b2,bv];simp
  have d:i<len*ai+ai:=by
   have:=Dj (V:=V) (ai:=ai) (len+1) h;rw[cv]at this;omega
  rw[<-bl hi,e]
  by_cases c:i<len*ai
  ·rw[List.getElem?_append_left o_,bl o_];exact a i o_
  ·rw[List.getElem?_append_right o_,hl];have:=hc len o_ (i-len*ai) o_;rw[<-this];congr 3;omega
theorem vZ:∀(n:Nat)(J:Nat)(t:ax)(cs:List av)(d:ay H)(r:List ap),lX P n t=true->a2 enc P w base (fun _=>true) held J t cs=some (d,r)->
 aV P w (fun k=>k<w.heap.size) (bH P n t d) cs
 |0,_,_,_,_,_,h,_=>by simp[lX]at h
 |n+1,J,t,cs,d,r,h,p=>by
  simp only[lX]at h
  split at h
  ·rename_i o;obtain⟨b,rfl,hx⟩:=DataW.trod_bool o p;cases hx;simp[bH,o,aV]
  ·rename_i k o;obtain⟨z,rfl,hx,E⟩:=DataW.trod_int o p;cases hx;simp[bH,o,E,aV]
  ·rename_i o;obtain⟨s,rfl,hx,_⟩:=DataW.trod_string o p;cases hx;simp[bH,o,aV]
  ·rename_i e o;simp only[ao,decide_eq_true_eq]at h;obtain⟨v,B⟩:=h;rcases open_slice o p with⟨rfl,hx⟩|⟨a,len,cap,m,k,D,S,rfl,ac,hl,ae,O,hx,U⟩
   ·cases hx;simp[bH,o,aV]
   cases hx;simp only[if_true]at O;subst O;obtain⟨V,q⟩:=choose_lt U;have R:a.spot=none\/m=0:=by
    by_cases E:m=0
    ·exact .inr E
    left;obtain⟨c1,_⟩:=q 0 o_;obtain⟨_,c2,c3⟩:=a8 c1;have c4:=c3 0 B;rw[bl o_]at c4;simp only[Addr.add,Nat.zero_mul,if_true]at c4;unfold a9 at c4
    split at c4
    ·split at c4
     ·cases c4
     ·rename_i hs;simpa using hs
    ·cases c4
   have M:∀i,i<m->∀j,j<P.cellsOf e->w.cell? ⟨a.block,a.off+(i*P.cellsOf e+j),none⟩=(V i)[j]?:=by
    intro i hi j X;have hs:a.spot=none:=R.resolve_right o_;obtain⟨_,_,c3⟩:=a8 (q i hi).1;have:=c3 j X;rw[add_add]at this;rw[<-this];obtain⟨F,G,I⟩:=a;simp only at hs;subst hs;unfold Addr.add;split<;>simp_all
   have A:∀i,i<m->(V i).length=P.cellsOf e:=fun i hi=>(a8 (q i hi).1).2.1;simp only[bH,o,aV];right;obtain⟨F,G,I⟩:=a;refine⟨F,G,m,P.cellsOf e,(bo len).map V,?_,?_,?_,by simpa using hl,I,R,s_⟩
   ·have:=Cn (P:=P) (w:=w) (len:=len) (ai:=P.cellsOf e) (aa:=fun k=>k<w.heap.size) (f:=fun i=>bH P n e (D i)) (g:=V) (l:=bo len) (fun i hi=>by
     have hi:i<m:=by have:=cc.1 hi;omega
     exact⟨vZ n k e (V i) (D i) (S i) v (q i hi).2,A i hi⟩)
    simpa[Function.comp_def]using this
   ·intro Y;have ab:0<len:=by
     rcases Nat.eq_zero_or_pos len with h|h
     ·subst h;simp at Y
     ·exact h
    have c:=M 0 o_ 0 B;rw[bl (by rw[A 0 o_];exact B)]at c;unfold a9 at c
    split at c
    ·rename_i y;exact(am.1 y).1
    ·cases c
   ·exact Ks len (fun i hi=>A i o_) (fun i hi=>M i o_)
  ·rename_i fs o;simp only[ao,beq_iff_eq,List.all_eq_true]at h;obtain⟨⟨⟨u,K⟩,L⟩,T⟩:=h;obtain⟨xs,k,rfl,hx,hlen,C,hf⟩:=DataW.trod_struct o p;cases hx;have⟨g1,g2⟩:=O1 (aa:=fun k=>k<w.heap.size) (fun t cs d r Z y=>vZ n k t cs d r Z y) fs.toList xs 0 cs K (by simpa using C) T o_ (fun i f hi=>hf i f (by simpa using hi));simp only[bH,o,aV];refine⟨_,_,u,g1,?_⟩;rw[g2,List.drop_zero,b4 o_]
  ·rename_i m e o;simp only[ao,beq_iff_eq]at h;obtain⟨⟨u,K⟩,L⟩:=h;obtain⟨xs,k,rfl,hx,hlen,C,hf⟩:=trod_array o p;cases hx;have Q:=Cn (P:=P) (w:=w) (len:=m) (ai:=P.cellsOf e) (aa:=fun k=>k<w.heap.size) (f:=fun i=>match xs[i]? with
     |some x=>bH P n e x.1
     |none=>.undef) (g:=fun i=>(cs.drop (i*P.cellsOf e)).take (P.cellsOf e)) (l:=bo m) (fun i hi=>by
      have hi:i<m:=cc.1 hi;have N:=hf i hi;rw[bl o_]at N⊢;refine⟨vZ n k e _ xs[i].1 xs[i].2 L N,?_⟩;have:(i+1)*P.cellsOf e<=m*P.cellsOf e:=Nat.mul_le_mul_right _ hi;rw[cv]at this;simp;omega)
   have v:((bo m).map fun i=>match xs[i]? with
    |some x=>bH P n e x.1
    |none=>.undef)=(xs.map (·.1)).map (bH P n e):=by
    apply List.ext_getElem
    ·simp[C]
    ·intro i W ad;simp at W;simp[bl (show i<xs.length by omega)]
   rw[v,List.length_range]at Q;simp only[bH,o,aV];refine⟨_,_,u,Q,?_⟩;rw[JT,b4 o_]
  ·cases h
end
open Go.Proofs
def FW:Array av:=(Lib.pow10Tab.map fun z=>Value.int .u64 z).toArray
def aLt:Nat->Option (Array av)
 |1=>some FW
 |_=>none
instance Rn:Gl:=⟨fun _=>.undef,5,aLt,fun u=>bif cy u 117 then some 118 else none,fun n=>bif cy n 4 then true else cy n 5⟩
@[simp] theorem ki3:kindOf prog 3=.leaf:=k_
@[simp] theorem F0:prog.underlying 3=some (.int .i64):=k_
@[simp] theorem tz3:cK prog 3=some (.int .i64 (0)):=k_
@[simp] theorem ki4:kindOf prog 4=.leaf:=k_
@[simp] theorem ib4:rq prog 4=true:=k_
@[simp] theorem tz4:cK prog 4=some (.bool false):=k_
@[simp] theorem tz5:cK prog 5=some (.int .u8 (0)):=k_
@[simp] theorem ki9:kindOf prog 9=.leaf:=k_
@[simp] theorem uR:prog.underlying 9=some .string:=k_
@[simp] theorem at9:iy prog 9=true:=k_
@[simp] theorem tz9:cK prog 9=some (.str []):=k_
@[simp] theorem aOu:kindOf prog 22=.leaf:=k_
@[simp] theorem aMu:prog.underlying 22=some (.slice 64):=k_
@[simp] theorem aM5:iy prog 22=true:=k_
@[simp] theorem aNt:cV prog 22=some 2:=k_
@[simp] theorem aNP:dW prog 22=64:=k_
@[simp] theorem aOw:kindOf prog 23=.leaf:=k_
@[simp] theorem aMv:prog.underlying 23=some (.slice 88):=k_
@[simp] theorem aM6:iy prog 23=true:=k_
@[simp] theorem aNv:cV prog 23=some 4:=k_
@[simp] theorem aNR:dW prog 23=88:=k_
@[simp] theorem aOz:kindOf prog 24=.leaf:=k_
@[simp] theorem aMw:prog.underlying 24=some (.slice 97):=k_
@[simp] theorem aM7:iy prog 24=true:=k_
@[simp] theorem aNx:cV prog 24=some 3:=k_
@[simp] theorem aNT:dW prog 24=97:=k_
@[simp] theorem aOA:kindOf prog 26=.agg 25:=k_
@[simp] theorem aPK:fU prog 26=some (25,4):=k_
@[simp] theorem aQa:cK prog 26=some (.st 25 [.aK,.int .i64 (0),.aK,.aK]):=k_
@[simp] theorem aOE:kindOf prog 30=.leaf:=k_
@[simp] theorem aQd:cK prog 30=some (.int .i64 (0)):=k_
@[simp] theorem aOG:kindOf prog 33=.leaf:=k_
@[simp] theorem aM9:iy prog 33=true:=k_
@[simp] theorem aNz:cV prog 33=some 4:=k_
@[simp] theorem aNV:dW prog 33=91:=k_
@[simp] theorem aOH:kindOf prog 34=.leaf:=k_
@[simp] theorem aNa:iy prog 34=true:=k_
@[simp] theorem aNA:cV prog 34=some 3:=k_
@[simp] theorem aNW:dW prog 34=125:=k_
@[simp] theorem aOI:kindOf prog 36=.agg 35:=k_
@[simp] theorem aPM:fU prog 36=some (35,4):=k_
@[simp] theorem aQf:cK prog 36=some (.st 35 [.aK,.int .i64 (0),.aK,.aK]):=k_
@[simp] theorem aMx:prog.underlying 48=some (.slice 85):=k_
@[simp] theorem aNb:iy prog 48=true:=k_
@[simp] theorem aNB:cV prog 48=some 3:=k_
@[simp] theorem aNX:dW prog 48=85:=k_
@[simp] theorem aOL:kindOf prog 51=.leaf:=k_
@[simp] theorem aNc:iy prog 51=true:=k_
@[simp] theorem aNC:cV prog 51=some 3:=k_
@[simp] theorem aNY:dW prog 51=86:=k_
@[simp] theorem aOM:kindOf prog 64=.agg 63:=k_
@[simp] theorem aPN:fU prog 64=some (63,2):=k_
@[simp] theorem aQi:cK prog 64=some (.st 63 [.int .i64 (0),.int .i64 (0)]):=k_
@[simp] theorem aON:kindOf prog 73=.leaf:=k_
@[simp] theorem F1:prog.underlying 73=some .string:=k_
@[simp] theorem aQj:cK prog 73=some (.str []):=k_
@[simp] theorem aOO:kindOf prog 82=.agg 81:=k_
@[simp] theorem aPO:fU prog 82=some (81,2):=k_
@[simp] theorem aQk:cK prog 82=some (.st 81 [.str [],.str []]):=k_
@[simp] theorem aOP:kindOf prog 85=.agg 84:=k_
@[simp] theorem aPP:fU prog 85=some (84,2):=k_
@[simp] theorem aQl:cK prog 85=some (.st 84 [.str [],.st 81 [.str [],.str []]]):=k_
@[simp] theorem aOQ:kindOf prog 86=.agg 84:=k_
@[simp] theorem aPQ:fU prog 86=some (84,2):=k_
@[simp] theorem aQm:cK prog 86=some (.st 84 [.str [],.st 81 [.str [],.str []]]):=k_
@[simp] theorem aOR:kindOf prog 88=.agg 87:=k_
@[simp] theorem aPR:fU prog 88=some (87,4):=k_
@[simp] theorem aQn:cK prog 88=some (.st 87 [.str [],.int .i64 (0),.str [],.str []]):=k_
@[simp] theorem aOT:kindOf prog 91=.agg 87:=k_
@[simp] theorem aPS:fU prog 91=some (87,4):=k_
@[simp] theorem aQp:cK prog 91=some (.st 87 [.str [],.int .i64 (0),.str [],.str []]):=k_
@[simp] theorem aOU:kindOf prog 97=.agg 84:=k_
@[simp] theorem aPT:fU prog 97=some (84,2):=k_
@[simp] theorem aQq:cK prog 97=some (.st 84 [.str [],.st 81 [.str [],.str []]]):=k_
@[simp] theorem aNp:cV prog 109=some 2:=k_
@[simp] theorem aNL:dW prog 109=82:=k_
@[simp] theorem aOl:kindOf prog 116=.leaf:=k_
@[simp] theorem aNq:cV prog 116=some 1:=k_
@[simp] theorem aNM:dW prog 116=5:=k_
@[simp] theorem aOm:kindOf prog 118=.agg 117:=k_
@[simp] theorem aPE:fU prog 118=some (117,2):=k_
@[simp] theorem aP2:cK prog 118=some (.st 117 [.dc,.aK]):=k_
@[simp] theorem aOn:kindOf prog 125=.agg 84:=k_
@[simp] theorem aPF:fU prog 125=some (84,2):=k_
@[simp] theorem aP3:cK prog 125=some (.st 84 [.str [],.st 81 [.str [],.str []]]):=k_
@[simp] theorem aOo:kindOf prog 132=.agg 131:=k_
@[simp] theorem aPG:fU prog 132=some (131,3):=k_
@[simp] theorem aP4:cK prog 132=some (.st 131 [.st 35 [.aK,.int .i64 (0),.aK,.aK],.aK,.int .i64 (0)]):=k_
@[simp] theorem aM4:iy prog 140=true:=k_
@[simp] theorem aNr:cV prog 140=some 1:=k_
@[simp] theorem aNN:dW prog 140=9:=k_
@[simp] theorem aOp:kindOf prog 161=.leaf:=k_
@[simp] theorem aNs:cV prog 161=some 1:=k_
@[simp] theorem aNO:dW prog 161=307:=k_
@[simp] theorem aOq:kindOf prog 163=.agg 162:=k_
@[simp] theorem aPH:fU prog 163=some (162,2):=k_
@[simp] theorem aP5:cK prog 163=some (.st 162 [.int .i64 (0),.aK]):=k_
@[simp] theorem aOr:kindOf prog 165=.agg 164:=k_
@[simp] theorem aPI:fU prog 165=some (164,2):=k_
@[simp] theorem aP6:cK prog 165=some (.st 164 [.st 162 [.int .i64 (0),.aK],.st 162 [.int .i64 (0),.aK]]):=k_
@[simp] theorem aOs:kindOf prog 167=.agg 166:=k_
@[simp] theorem aM1:iA prog 167=some (166,2):=k_
@[simp] theorem aP7:cK prog 167=some (.st 166 [.st 164 [.st 162 [.int .i64 (0),.aK],.st 162 [.int .i64 (0),.aK]],.st 164 [.st 162 [.int .i64 (0),.aK],.st 162 [.int .i64 (0),.aK]]]):=k_
@[simp] theorem aOt:kindOf prog 178=.agg 178:=k_
@[simp] theorem aM2:iA prog 178=some (178,2):=k_
@[simp] theorem aP8:cK prog 178=some (.st 178 [.st 166 [.st 164 [.st 162 [.int .i64 (0),.aK],.st 162 [.int .i64 (0),.aK]],.st 164 [.st 162 [.int .i64 (0),.aK],.st 162 [.int .i64 (0),.aK]]],.st 166 [.st 164 [.st 162 [.int .i64 (0),.aK],.st 162 [.int .i64 (0),.aK]],.st 164 [.st 162 [.int .i64 (0),.aK],.st 162 [.int .i64 (0),.aK]]]]):=k_
@[simp] theorem aNu:cV prog 225=some 1:=k_
@[simp] theorem aNQ:dW prog 225=30:=k_
@[simp] theorem aOv:kindOf prog 228=.leaf:=k_
@[simp] theorem aOx:kindOf prog 230=.agg 229:=k_
@[simp] theorem aPJ:fU prog 230=some (229,3):=k_
@[simp] theorem aP9:cK prog 230=some (.st 229 [.int .i64 (0),.int .i64 (0),.iE]):=k_
@[simp] theorem aOy:kindOf prog 238=.leaf:=k_
@[simp] theorem aNw:cV prog 238=some 1:=k_
@[simp] theorem aNS:dW prog 238=73:=k_
@[simp] theorem aOB:kindOf prog 289=.leaf:=k_
@[simp] theorem aM8:iy prog 289=true:=k_
@[simp] theorem aNy:cV prog 289=some 1:=k_
@[simp] theorem aNU:dW prog 289=3:=k_
@[simp] theorem aOC:kindOf prog 291=.agg 290:=k_
@[simp] theorem aPL:fU prog 291=some (290,2):=k_
@[simp] theorem aQb:cK prog 291=some (.st 290 [.bool false,.aK]):=k_
@[simp] theorem aOF:kindOf prog 307=.leaf:=k_
@[simp] theorem aQe:cK prog 307=some (.int .u64 (0)):=k_
@[simp] theorem aOJ:kindOf prog 382=.agg 381:=k_
@[simp] theorem aM3:iA prog 382=some (381,256):=k_
@[simp] theorem aMc:dL prog 25=some [1,1,1,1]:=k_
@[simp] theorem aP1:dL prog 35=some [1,1,1,1]:=k_
@[simp] theorem aMd:dL prog 63=some [1,1]:=k_
@[simp] theorem aMe:dL prog 81=some [1,1]:=k_
@[simp] theorem SV:dL prog 84=some [1,2]:=k_
@[simp] theorem aMf:dL prog 87=some [1,1,1,1]:=k_
@[simp] theorem aPU:dL prog 131=some [4,1,1]:=k_
@[simp] theorem aPV:dL prog 162=some [1,1]:=k_
@[simp] theorem aPW:dL prog 164=some [2,2]:=k_
@[simp] theorem aPX:dL prog 166=some [4,4]:=k_
@[simp] theorem aPY:dL prog 178=some [8,8]:=k_
@[simp] theorem aPZ:dL prog 229=some [1,1,1]:=k_
@[simp] theorem aP0:dL prog 290=some [1,1]:=k_
section
variable{H:Type}{w:a0}{aa:Nat->Prop}
theorem GB{P:aT}:∀{l:List Nat}{d:List PV}{b:List (List av)},bg P w aa l d b->∀e∈d,∃c,aV P w aa e c
 |_,[],_,_=>fun e a=>by cases a
 |[],v::vs,_,h=>by simp[bg]at h
 |n::i,v::vs,b,h=>by
  simp only[bg]at h;obtain⟨c,cs,_,f,_,g⟩:=h;intro e a;rcases b3.1 a with rfl|a
  ·exact⟨c,f⟩
  ·exact GB g e a
theorem xM{n:Nat}(d:ay H)(c)(h:aV prog w aa (bH prog (n+1) 3 d) c):∃z:Int,bH prog (n+1) 3 d=.int .i64 z:=by
 cases d with
 |lit l=>
  cases l with
  |int k z=>
   simp only[bH,F0]at h⊢
   split at h
   ·rename_i a;rw[if_pos a];exact⟨_,rfl⟩
   ·simp only[aV]at h
  |_=>simp only[bH,F0,aV]at h
 |_=>simp only[bH,F0,aV]at h
end
theorem y5{P:aT}{W:a0}{name:String}{d:ay Unit}:∀{l:List (String×ay Unit)}{b:List ap},DataW.LaidVars P W l b->(name,d)∈l->
 ∃g t cs a p,P.globalNamed name=some g/\(P.globals[g]?).map (·.type)=some t/\W.var? P name=some cs/\a2 (fun _=>()) P W 0 (fun _=>true) false a t cs.toList=some (d,p)/\∀x∈a5 ⟨g,0,none⟩ cs.size,x∈b
 |[],_,_,h=>by cases h
 |(n,d0)::r,b,h,hm=>by
  obtain⟨g,t,cs,a,p,q,j,k,m,o,s,rfl⟩:=h;rcases b3.1 hm with e|hm
  ·cases e;exact⟨g,t,cs,a,p,j,k,m,o,fun x hx=>by simp[hx]⟩
  ·obtain⟨i,v,c,f,u,k1,k2,k3,k4,k5⟩:=y5 s hm;exact⟨i,v,c,f,u,k1,k2,k3,k4,fun x hx=>by simp[k5 x hx]⟩
open Go.Proofs Go.Proofs.YtfdgnogcckoalaaGreatDoor
theorem LA:prog.globalNamed "internal/strconv.uint64pow10" =some 1:=k_
theorem Wq:((Rows.tableKeepsUptoRow.laid).filter fun x=>x.2.handleName?.isSome)=[]:=k_
theorem aLg:(prog.globals[1]?).map (·.type)=some 366:=k_
theorem aLh:prog.underlying 366=some (.array 20 307):=k_
theorem aLe:prog.underlying 307=some (.int .u64):=k_
theorem aLc:prog.cellsOf 307=1:=k_
theorem aLd:prog.cellsOf 366=20:=k_
theorem Rg:(match prog.underlying 120 with|some (.interface _)=>true|_=>false)=true:=k_
theorem Hr{W:a0}{t:ax}{cs:List av}{b:Nat}{n:String}{d:ay Unit}{p:List ap}(a:(match prog.underlying t with|some (.interface _)=>true|_=>false)=true)
 (h:a2 (fun _=>()) prog W 0 (fun _=>true) false b t cs=some (.iface n d,p)):∃u v,cs=[.iface u v]:=by
 cases hu:prog.underlying t with
 |none=>rw[hu]at a;cases a
 |some D=>
  rw[hu]at a;cases D<;>(try (cases a;done))
  cases b with
  |zero=>simp[a2]at h
  |succ b=>
   rcases cs with _|⟨c,_|⟨c2,r⟩⟩
   ·simp[a2,hu]at h
   ·cases c<;>first|exact⟨_,_,rfl⟩|simp[a2,hu]at h
   ·cases c<;>simp[a2,hu]at h
theorem HR:prog.globalNamed "strconv.ErrSyntax" =some 4:=k_
theorem HU:prog.globalNamed "strconv.ErrRange" =some 5:=k_
theorem aMb:(prog.globals[4]?).map (·.type)=some 120:=k_
theorem aLI:(prog.globals[5]?).map (·.type)=some 120:=k_
theorem Gc{W:a0}(h:laidMetH prog Rows.tableKeepsUptoRow.laid W):mr prog W (fun k=>k<W.heap.size):=by
 unfold laidMetH at h;rw[Wq]at h;obtain⟨q,i,_,j⟩:=h;obtain⟨g,t,cs,fuel,p,k1,k2,k3,k4,k5⟩:=y5 (name:= "internal/strconv.uint64pow10") (d:=Lib.tabData .u64 Lib.pow10Tab) i (by
  show _∈[_,_,_,_,_,_,_];exact bi _ (bi _ bk))
 rw[LA]at k1;cases k1;rw[aLg]at k2;cases k2;have b:=Lib.cells_of_tab aLh aLe aLc aLd k4;have l:cs=FW:=by rw[FW,<-b]
 have n:0<cs.size:=by rw[l];decide
 obtain⟨⟨c,T,a⟩,_⟩:=j 1 0 (k5 _ (by simp[a5];exact n));refine⟨fun g=>by simp[aB,Gl.g],fun g o f=>?_,fun g f=>?_⟩
 ·match g,f with
  |1,f=>
   cases f;refine⟨(am.1 a).1,T,?_⟩;simp only[bb,LA,cE,a,cN]at k3;rw[a,k3,l]
 ·have m:g=4\/g=5:=by
   simp only[Gl.uF,Rn,Bool.cond_eq_ite]at f
   split at f
   ·rename_i e;exact .inl (cx e)
   ·exact .inr (cx f)
  rcases m with rfl|rfl
  ·obtain⟨g,t,cs,fuel,p,k1,k2,k3,k4,k5⟩:=y5 (name:= "strconv.ErrSyntax") (d:=Rows.laid_strconv_ErrSyntax) i (by
    show _∈[_,_,_,_,_,_,_]
    iterate 5 refine bi _ ?_
    exact bk)
   rw[HR]at k1;cases k1;rw[aMb]at k2;cases k2;obtain⟨u,v,hc⟩:=Hr Rg k4;have b:cs=#[.iface u v]:=by rw[<-hc]
   obtain⟨⟨c,T,a⟩,_⟩:=j 4 0 (k5 _ (by simp[a5,b]));refine⟨(am.1 a).1,u,v,T,?_⟩;simp only[bb,HR,cE,a,cN]at k3;rw[a,k3,b]
  ·obtain⟨g,t,cs,fuel,p,k1,k2,k3,k4,k5⟩:=y5 (name:= "strconv.ErrRange") (d:=Rows.laid_strconv_ErrRange) i (by
    show _∈[_,_,_,_,_,_,_]
    iterate 4 refine bi _ ?_
    exact bk)
   rw[HU]at k1;cases k1;rw[aLI]at k2;cases k2;obtain⟨u,v,hc⟩:=Hr Rg k4;have b:cs=#[.iface u v]:=by rw[<-hc]
   obtain⟨⟨c,T,a⟩,_⟩:=j 5 0 (k5 _ (by simp[a5,b]));refine⟨(am.1 a).1,u,v,T,?_⟩;simp only[bb,HU,cE,a,cN]at k3;rw[a,k3,b]
section
variable[Gl]{P:aT}
theorem Z0{f:FuncId}{args:List PV}{v:PV}(g:Enters P f)(h:aA P f args v){w:a0}{aa:Nat->Prop}{a:List av}(d:∀k,aa k->k<w.heap.size)(i:mr P w aa)(c:bm P w aa args a):
 Calls P f a.toArray w fun e w'=>∃b,∃aD:Nat->Prop,e=.returned b/\w.heap.size<=w'.heap.size/\(∀k,k<w.heap.size->w'.heap[k]?=w.heap[k]?)/\(w'.os=w.os/\w'.output=w.output)/\aB P w' aD v b:=by
 rcases h with h|h
 ·refine(h.2 w aa a d i c).mono ?_;rintro e w' ⟨b,aD,k1,_,_,_,k5,k6,j,k7⟩;exact⟨b,aD,k1,k5,k6,j,k7⟩
 ·obtain⟨b,k1,_⟩:=h w aa a c;rw[g a.toArray w]at k1;cases k1
theorem aJ3{w w':a0}(h:∀k,k<w.heap.size->w'.heap[k]?=w.heap[k]?)(a:w'.os=w.os/\w'.output=w.output)(b:ap->Prop):w.keptBut w' b:=by
 refine⟨a.1,a.2,fun i hi=>?_⟩;rw[h i hi];cases w.heap[i]? with
 |none=>rfl
 |some o=>cases o<;>first|exact⟨rfl,rfl,rfl,fun _ _=>rfl⟩|exact .inr ⟨rfl,rfl⟩|rfl
theorem aLM{w w':a0}(h:∀k,k<w.heap.size->w'.heap[k]?=w.heap[k]?){p:ap}(a:p.block<w.heap.size):w.sameAt w' p:=by
 cases p with
 |cell b o=>simp only[be,a9];rw[h b a]
 |map b=>simp only[be];rw[h b a]
theorem WL{H:Type}{e:ax×av->H}{f:Func}{s:a1}{apart fresh handsOn:Bool}{W c:a0}{args:Array av}{v:av}{d g:List (ay H)}{a pa pv:List ap}
 (j:a4 e P f.params.toList s.vars apart W args.toList d g a)
 (o:∀(b:Nat)(sp:Nat->Bool)(m:Bool),a3 e P c b sp m f.resultTypes.toList (v.resultList f.resultTypes.size) (s.fn H (d++g)).results [])
 (l:∀sp:Nat->Bool,(∀p∈a,sp p.block=true)->a3 e P c 0 sp true f.params.toList args.toList (s.fn H (d++g)).args pa)
 (q:∀sp:Nat->Bool,(∀p∈a,sp p.block=true)->DataW.TrodVars e P c sp s.vars (s.fn H (d++g)).vars pv)
 (n:a=pa++pv)(hk:W.keptBut c (·∈a)):s.post e P f apart fresh handsOn false W args v c:=by
 have k:∀p∈a,(fun b=>decide (b<W.heap.size)) p.block=true:=fun p i=>by simpa using j.lt p i
 refine⟨d,g,a,[],pa,pv,j,o _ _ _,l _ k,q _ k,World.keptBut_mono (fun p i=>⟨i,?_⟩) hk,fun h=>by cases h⟩;rw[n,List.mem_append]at i;exact Or.inr i
end
section
variable{H:Type}{enc:ax×av->H}{P:aT}{w:a0}
theorem YI{n:Nat}{t:ax}{d:ay H}{cs:List av}{aa:Nat->Prop}(h:aV P w aa (bH P n t d) cs):
 (((∃fs,P.underlying t=some (.struct fs))\/∃m e,P.underlying t=some (.array m e))/\∃u,aL (bH P n t d)=.agg u)\/((P.underlying t=some .bool\/(∃k,P.underlying t=some (.int k))\/P.underlying t=some .string\/∃e,P.underlying t=some (.slice e))/\aL (bH P n t d)=.leaf):=by
 cases n with
 |zero=>simp only[bH,aV]at h
 |succ n=>
  unfold bH at h⊢
  split at h
  ·rename_i a;exact .inr ⟨.inl a,rfl⟩
  ·rename_i k z a
   split at h
   ·rename_i b;rw[if_pos b];exact .inr ⟨.inr (.inl ⟨_,a⟩),rfl⟩
   ·simp only[aV]at h
  ·rename_i a;exact .inr ⟨.inr (.inr (.inl a)),rfl⟩
  ·rename_i a;exact .inr ⟨.inr (.inr (.inr ⟨_,a⟩)),rfl⟩
  ·rename_i a;exact .inr ⟨.inr (.inr (.inr ⟨_,a⟩)),rfl⟩
  ·rename_i a;exact .inl ⟨.inl ⟨_,a⟩,_,rfl⟩
  ·rename_i a;exact .inl ⟨.inr ⟨_,_,a⟩,_,rfl⟩
  ·simp only[aV]at h
theorem YG[Gl]{n:Nat}{t:ax}{v:av}{d:ay H}{f:List ap}{g i:Nat}{r:Reach}(j:lX P n t=true)(h:DataW.Trod enc P w g (fun _=>true) true t v d f)(b:a6 P w r i t v):
 aB P w (fun k=>k<w.heap.size) (bH P n t d) v:=by
 obtain⟨fuel,h⟩:=h;have hc:=vZ n fuel t _ d f j h;rcases YI hc with⟨a,u,hs⟩|⟨a,hs⟩
 ·have:∃cs,v=.agg cs:=by
   rcases a with⟨fs,a⟩|⟨m,e,a⟩
   ·simp only[a6,a]at b;obtain⟨cs,rfl,_,_⟩:=b;exact⟨cs,rfl⟩
   ·simp only[a6,a]at b;obtain⟨cs,rfl,_,_⟩:=b;exact⟨cs,rfl⟩
  obtain⟨cs,rfl⟩:=this;rw[wA hs]at hc;simpa[a7]using hc
 ·rw[tH hs]at hc;obtain⟨c,hc,l⟩:=hc;have:v=c:=by
   cases v with
   |agg cs=>rcases a with a|⟨k,a⟩|a|⟨e,a⟩<;>simp[a6,a,Cell.okWide,Cell.ok]at b
   |_=>simpa[a7]using hc
  rw[this];exact l
def oP(P:aT)(n:Nat):List ax->List (ay H)->List PV
 |t::ts,d::ds=>bH P n t d::oP P n ts ds
 |_,_=>[]
theorem ze[Gl]{n:Nat}{base:Nat}{r:Reach}:∀{ts:List ax}{vs:List av}{ds:List (ay H)}{h:List ap},(∀t∈ts,lX P n t=true)->a3 enc P w 0 (fun _=>true) true ts vs ds h->
 (∀(j:Nat) t v,ts[j]?=some t->vs[j]?=some v->a6 P w r base t v)->bm P w (fun k=>k<w.heap.size) (oP P n ts ds) vs/\ds.length=ts.length
 |[],[],[],_,_,_,_=>by simp[oP,bm]
 |t::ts,v::vs,d::ds,_,b,⟨p,q,e,f,_⟩,c=>by
  have⟨i1,i2⟩:=ze (ts:=ts) (vs:=vs) (ds:=ds) (fun t a=>b t (bi _ a)) f (fun j t v a g=>c (j+1) t v (by simpa using a) (by simpa using g));refine⟨?_,by simp[i2]⟩;simp only[oP,bm];exact⟨v,vs,rfl,YG (b t bk) e (c 0 t v rfl rfl),i1⟩
theorem Mg{n:Nat}:∀{ts:List ax}{vs:List av}{ds:List (ay H)}{g:List ap},(∀t∈ts,lX P n t=true)->a3 enc P w 0 (fun _=>true) true ts vs ds g->
 ∀p∈ts.zip ds,∃cs,aV P w (fun k=>k<w.heap.size) (bH P n p.1 p.2) cs
 |[],[],[],_,_,_=>by simp
 |t::ts,v::vs,d::ds,_,a,⟨p,q,⟨fuel,b⟩,c,_⟩=>by
  have f:=Mg (ts:=ts) (vs:=vs) (ds:=ds) (fun t e=>a t (bi _ e)) c;intro x hx;rw[b5]at hx;rcases b3.1 hx with rfl|hx
  ·exact⟨_,vZ n fuel t _ d p (a t bk) b⟩
  ·exact f x hx
theorem Jz{w':a0}{f:Nat}{g:Nat->Bool}{held:Bool}:∀{c:List ax}{vs:List av}{a:List (ay H)}{b:List ap},a3 enc P w f g held c vs a b->(∀p∈b,w.sameAt w' p)->
 a3 enc P w' f g held c vs a b
 |[],[],[],_,h,_=>h
 |t::c,v::vs,d::a,_,⟨p,q,⟨n,i⟩,j,e⟩,hs=>by
  subst e;exact⟨p,q,⟨n,DataW.trod_carry n _ _ _ i fun x hx=>hs x (List.mem_append_left _ hx)⟩,Jz j fun x hx=>hs x (List.mem_append_right _ hx),rfl⟩
theorem K2[Gl]{f:FuncId}{fn:Func}{s:a1}{n:Nat}{T:ax->Prop}(u:s.vars=[])(D:∀(H:Type)(a:List (ay H)),a.length=fn.params.size->(s.fn H a).results=[.lit (.bool true)]/\(s.fn H a).args=a/\(s.fn H a).vars=[])
 (K:Kids P T)(O:∀t e,T t->P.underlying t=some (.slice e)->0<P.cellsOf e)(z:∀t∈fn.params.toList,T t)(r:∀t∈fn.params.toList,lX P n t=true){tb:ax}(J:fn.resultTypes=#[tb])(B:P.underlying tb=some .bool)
 (C:Enters P f){W:a0}{args:Array av}{a c:List (ay H)}{y:List ap}{w:Nat}(E:mr P W (fun k=>k<W.heap.size))
 (F:(∀p∈fn.params.toList.zip a,∃cs,aV P W (fun k=>k<W.heap.size) (bH P n p.1 p.2) cs)->aA P f (oP P n fn.params.toList a) (.bool true))
 (N:∀(j:Nat) t v,fn.params[j]?=some t->args[j]?=some v->a6 P W .any w t v)
 (o:a4 enc P fn.params.toList s.vars false W args.toList a c y):
 Calls P f args W fun e l=>∃v,e=.returned v/\s.post enc P fn false true false false W args v l:=by
 have A:=o;obtain⟨p,q,d,h,rfl,R,S⟩:=o;rw[u]at h;have⟨i,hlen⟩:=ze r d (fun j t v L M=>N j t v (by simpa using L) (by simpa using M));have G:c=[]/\q=[]:=by
  cases c with
  |nil=>exact⟨rfl,h⟩
  |cons g c=>exact h.elim
 obtain⟨rfl,rfl⟩:=G;have hc:=Z0 C (F (Mg r d)) (fun k hk=>hk) E i;refine hc.mono ?_;rintro e l ⟨m,aD,rfl,k1,k2,k3,k4⟩;refine⟨m,rfl,?_⟩;obtain⟨f1,f2,f3⟩:=D H (a++[]) (by simpa using hlen);have e1:m=.bool true:=by simpa[aB]using k4
 have I:=DataW.TrodAll.lt d;refine WL (pa:=p) (pv:=[]) A ?_ ?_ ?_ rfl (aJ3 k2 k3 _)
 ·intro b sp Q;rw[f1,J,e1];refine⟨[],[],⟨1,?_⟩,rfl,rfl⟩;simp[a2,B,a7]
 ·intro sp hs;rw[f2];simp only[List.append_nil]at hs⊢;exact Jz (DataW.TrodAll.respare K O z d fun p i=>hs p i) fun x hx=>aLM k2 (I x hx)
 ·intro sp hs;rw[f3,u];rfl
end
end Go.au
