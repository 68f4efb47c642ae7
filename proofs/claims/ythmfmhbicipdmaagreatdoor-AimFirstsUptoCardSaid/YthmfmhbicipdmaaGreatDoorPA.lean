import Derived.Test.YthmfmhbicipdmaaGreatDoorThE
import Derived.Deep.Slices
import Derived.Test.YthmfmhbicipdmaaGreatDoorProg
import Derived.KernelRfl
import Derived.Lib.ItoaNum
import Derived.Test.YthmfmhbicipdmaaGreatDoorRows
import Derived.Lib.LaidTab
import Derived.ReadAgain
import Derived.ChangeOld
import Derived.RowKit3
import Derived.ChangeSame
import Derived.WideShapes
/- Parts of a proof. -/
set_option linter.unusedSimpArgs false
set_option linter.unusedVariables false
set_option linter.unusedSectionVars false
open Go.Proofs.Tryz
open Array renaming getElem?_eq_some_iff->am
open Bool renaming and_eq_true->ao
open Go renaming MemPlace->av, Value->ax, TypeId->ay, DataW->aT, Program->a0, World->a1, ChangeSpec->a2
open Go.DataW renaming trod->a3, TrodAll->a4, Whole->a5
open Go.Value renaming okWide->a6, cells->a7
open Go.World renaming cells?_some->a8, cell?->a9, sameAt->bb
open List renaming getElem?_eq_getElem->be, mem_cons_of_mem->bf, mem_cons_self->bi, range->bl, flatten_append->bo, map_cons->bv, range_succ->bw, map_append->b0, mem_cons->b1, take_of_length_le->b2, zip_cons_cons->b3, replicate->b4, mem_range->b5, take_add->cb, sum_cons->cc
open Nat renaming succ_mul->cd
namespace Go.ak
open Go.Deep
section
variable{H:Type}
def bJ(P:a0):Nat->ay->aT H->PV
 |0,_,_=>.undef
 |n+1,t,d=>match P.underlying t,d with
  |some .bool,.lit (.bool b)=>.bool b
  |some (.int k),.lit (.int _ z)=>if(Lit.int k z).wf=true then .int k z else .undef
  |some .string,.lit (.string s)=>.str (s.map (·.toNat))
  |some (.slice e),.slice ds _=>.seq (ds.map (bJ P n e))
  |some (.slice _),.nil=>.seq []
  |some (.struct fs),.agg ds=>.st (P.underlyingId t) ((fs.toList.zip ds).map fun p=>bJ P n p.1.type p.2)
  |some (.array _ e),.agg ds=>.st (P.underlyingId t) (ds.map (bJ P n e))
  |_,_=>.undef
def Ay(P:a0):Nat->List Field->Bool
 |_,[]=>true
 |o,f::fs=>(f.offset==o)&&Ay P (o+P.cellsOf f.type) fs
def mf(P:a0):Nat->ay->Bool
 |0,_=>false
 |n+1,t=>match P.underlying t with
  |some .bool|some (.int _)|some .string=>true
  |some (.slice e)=>mf P n e&&decide (0<P.cellsOf e)
  |some (.struct fs)=>(dv P (P.underlyingId t)==some (fs.toList.map fun f=>P.cellsOf f.type))&&Ay P 0 fs.toList&&(((fs.toList.map fun f=>P.cellsOf f.type).sum)==P.cellsOf t)&&fs.toList.all fun f=>mf P n f.type
  |some (.array m e)=>(dv P (P.underlyingId t)==some (b4 m (P.cellsOf e)))&&(m*P.cellsOf e==P.cellsOf t)&&mf P n e
  |_=>false
variable{enc:ay×ax->H}{P:a0}{w:a1}{base:Nat}{held:Bool}
theorem Ow{n k:Nat}{ad:Nat->Prop}(l:∀t cs d u,mf P n t=true->a3 enc P w base (fun _=>true) held k t cs=some (d,u)->aU P w ad (bJ P n t d) cs):
 ∀(fs:List Field)(a:List (aT H×List av))(o:Nat)(cs:List ax),Ay P o fs=true->a.length=fs.length->(∀f∈fs,mf P n f.type=true)->o+(fs.map fun f=>P.cellsOf f.type).sum<=cs.length->
  (∀(i:Nat)(f:Field),fs[i]?=some f->a3 enc P w base (fun _=>true) held k f.type ((cs.drop f.offset).take (P.cellsOf f.type))=a[i]?)->
  bk P w ad (fs.map fun f=>P.cellsOf f.type) ((fs.zip (a.map (·.1))).map fun p=>bJ P n p.1.type p.2) (fs.map fun f=>(cs.drop f.offset).take (P.cellsOf f.type))/\
   (fs.map fun f=>(cs.drop f.offset).take (P.cellsOf f.type)).flatten=(cs.drop o).take (fs.map fun f=>P.cellsOf f.type).sum
 |[],a,o,cs,_,b,_,_,_=>by
  have:a=[]:=by simpa using b
  subst this;simp[bk]
 |f::fs,[],o,cs,_,b,_,_,_=>by simp at b
 |f::fs,x::a,o,cs,c,b,h,hlen,hx=>by
  simp only[Ay,ao,beq_iff_eq]at c;obtain⟨c,s⟩:=c;simp only[bv,cc]at hlen;have j:=hx 0 f rfl;simp only[List.getElem?_cons_zero]at j;have m:=l _ _ x.1 x.2 (h f bi) j;have⟨q,r⟩:=Ow l fs a (o+P.cellsOf f.type) cs s (by simpa using b) (fun g e=>h g (bf _ e)) (by omega) (fun i g e=>by have:=hx (i+1) g (by simpa using e);simpa using this);refine⟨?_,?_⟩
  ·simp only[bv,b3,bk];exact⟨_,_,rfl,m,by simp[c];omega,q⟩
  ·simp only[bv,List.flatten_cons,cc,r,c];rw[<-List.drop_drop,cb]
theorem Cv{ai len:Nat}{ad:Nat->Prop}{f:Nat->PV}{g:Nat->List ax}:∀{l:List Nat},(∀i∈l,aU P w ad (f i) (g i)/\(g i).length=ai)->bk P w ad (b4 l.length ai) (l.map f) (l.map g)
 |[],_=>by simp[bk]
 |a::l,h=>by
  simp only[List.length_cons,List.replicate_succ,bv,bk];exact⟨_,_,rfl,(h a bi).1,(h a bi).2,Cv (len:=len) fun i hi=>h i (bf _ hi)⟩
theorem trod_array{m:Nat}{e t:ay}{b:Nat}{cs:List ax}{x:aT H×List av}{d:Nat->Bool}(g:P.underlying t=some (.array m e))(h:a3 enc P w base d held b t cs=some x):
 ∃(a:List (aT H×List av))(n:Nat),b=n+1/\x=(.agg (a.map (·.1)),a.flatMap (·.2))/\cs.length=P.cellsOf t/\a.length=m/\
  ∀i,i<m->a3 enc P w base d held n e ((cs.drop (i*P.cellsOf e)).take (P.cellsOf e))=a[i]?:=by
 cases b with
 |zero=>simp[a3]at h
 |succ n=>
  unfold a3 at h;rw[g]at h
  split at h<;>simp_all
  obtain⟨j,a,c,f⟩:=h;exact⟨a,f.symm,by simpa using mapM_some_length c,fun i hi=>mapM_some_get c i i (by simp[hi])⟩
theorem Js{α:Type}{cs:List α}{ai:Nat}:∀m,((bl m).map fun i=>(cs.drop (i*ai)).take ai).flatten=cs.take (m*ai)
 |0=>by simp
 |m+1=>by
  rw[bw,b0,bo,Js m,cd,cb];simp
theorem DB{V:Nat->List ax}{ai:Nat}:∀(len:Nat),(∀i,i<len->(V i).length=ai)->((bl len).map V).flatten.length=len*ai
 |0,_=>by simp
 |len+1,h=>by
  rw[bw,b0,bo,List.length_append,DB len fun i hi=>h i (by omega),cd];simp[h len (by omega)]
theorem J0{V:Nat->List ax}{ai b o:Nat}:∀(len:Nat),(∀i,i<len->(V i).length=ai)->(∀i,i<len->∀j,j<ai->w.cell? ⟨b,o+(i*ai+j),none⟩=(V i)[j]?)->ir w b o ((bl len).map V).flatten
 |0,_,_=>by intro i hi;simp at hi
 |len+1,h,hc=>by
  intro i hi;have a:=DB (V:=V) (ai:=ai) len fun i hi=>h i (by omega);have c:=J0 (V:=V) (ai:=ai) (b:=b) (o:=o) len (fun i hi=>h i (by omega)) (fun i hi=>hc i (by omega));have e:((bl (len+1)).map V).flatten=((bl len).map V).flatten++V len:=by
   rw[bw,b0,bo];simp
  have f:i<len*ai+ai:=by
   have:=DB (V:=V) (ai:=ai) (len+1) h;rw[cd]at this;omega
  rw[<-be hi,e]
  by_cases d:i<len*ai
  ·rw[List.getElem?_append_left (by omega),be (by omega)];exact c i (by omega)
  ·rw[List.getElem?_append_right (by omega),a];have:=hc len (by omega) (i-len*ai) (by omega);rw[<-this];congr 3;omega
theorem wS:∀(n:Nat)(J:Nat)(t:ay)(cs:List ax)(d:aT H)(r:List av),mf P n t=true->a3 enc P w base (fun _=>true) held J t cs=some (d,r)->
 aU P w (fun k=>k<w.heap.size) (bJ P n t d) cs
 |0,_,_,_,_,_,h,_=>by simp[mf]at h
 |n+1,J,t,cs,d,r,h,p=>by
  simp only[mf]at h
  split at h
  ·rename_i o;obtain⟨b,rfl,hx⟩:=DataW.trod_bool o p;cases hx;simp[bJ,o,aU]
  ·rename_i k o;obtain⟨z,rfl,hx,E⟩:=DataW.trod_int o p;cases hx;simp[bJ,o,E,aU]
  ·rename_i o;obtain⟨s,rfl,hx,_⟩:=DataW.trod_string o p;cases hx;simp[bJ,o,aU]
  ·rename_i e o;simp only[ao,decide_eq_true_eq]at h;obtain⟨v,B⟩:=h;rcases open_slice o p with⟨rfl,hx⟩|⟨a,len,cap,m,k,D,S,rfl,ac,Y,af,O,hx,U⟩
   ·cases hx;simp[bJ,o,aU]
   cases hx;simp only[if_true]at O;subst O;obtain⟨V,q⟩:=choose_lt U;have R:a.spot=none\/m=0:=by
    by_cases E:m=0
    ·exact .inr E
    left;obtain⟨c1,_⟩:=q 0 (by omega);obtain⟨_,c2,c3⟩:=a8 c1;have c4:=c3 0 B;rw[be (by omega)]at c4;simp only[Addr.add,Nat.zero_mul,if_true]at c4;unfold a9 at c4
    split at c4
    ·split at c4
     ·cases c4
     ·rename_i hs;simpa using hs
    ·cases c4
   have M:∀i,i<m->∀j,j<P.cellsOf e->w.cell? ⟨a.block,a.off+(i*P.cellsOf e+j),none⟩=(V i)[j]?:=by
    intro i hi j X;have hs:a.spot=none:=R.resolve_right (by omega);obtain⟨_,_,c3⟩:=a8 (q i hi).1;have:=c3 j X;rw[add_add]at this;rw[<-this];obtain⟨F,G,I⟩:=a;simp only at hs;subst hs;unfold Addr.add;split<;>simp_all
   have A:∀i,i<m->(V i).length=P.cellsOf e:=fun i hi=>(a8 (q i hi).1).2.1;simp only[bJ,o,aU];right;obtain⟨F,G,I⟩:=a;refine⟨F,G,m,P.cellsOf e,(bl len).map V,?_,?_,?_,by simpa using Y,I,R,by simp⟩
   ·have:=Cv (P:=P) (w:=w) (len:=len) (ai:=P.cellsOf e) (ad:=fun k=>k<w.heap.size) (f:=fun i=>bJ P n e (D i)) (g:=V) (l:=bl len) (fun i hi=>by
     have hi:i<m:=by have:=b5.1 hi;omega
     exact⟨wS n k e (V i) (D i) (S i) v (q i hi).2,A i hi⟩)
    simpa[Function.comp_def]using this
   ·intro Z;have ab:0<len:=by
     rcases Nat.eq_zero_or_pos len with h|h
     ·subst h;simp at Z
     ·exact h
    have c:=M 0 (by omega) 0 B;rw[be (by rw[A 0 (by omega)];exact B)]at c;unfold a9 at c
    split at c
    ·rename_i y;exact(am.1 y).1
    ·cases c
   ·exact J0 len (fun i hi=>A i (by omega)) (fun i hi=>M i (by omega))
  ·rename_i fs o;simp only[ao,beq_iff_eq,List.all_eq_true]at h;obtain⟨⟨⟨u,K⟩,L⟩,T⟩:=h;obtain⟨xs,k,rfl,hx,hlen,C,hf⟩:=DataW.trod_struct o p;cases hx;have⟨g1,g2⟩:=Ow (ad:=fun k=>k<w.heap.size) (fun t cs d r aa y=>wS n k t cs d r aa y) fs.toList xs 0 cs K (by simpa using C) T (by omega) (fun i f hi=>hf i f (by simpa using hi));simp only[bJ,o,aU];refine⟨_,_,u,g1,?_⟩;rw[g2,List.drop_zero,b2 (by omega)]
  ·rename_i m e o;simp only[ao,beq_iff_eq]at h;obtain⟨⟨u,K⟩,L⟩:=h;obtain⟨xs,k,rfl,hx,hlen,C,hf⟩:=trod_array o p;cases hx;have Q:=Cv (P:=P) (w:=w) (len:=m) (ai:=P.cellsOf e) (ad:=fun k=>k<w.heap.size) (f:=fun i=>match xs[i]? with
     |some x=>bJ P n e x.1
     |none=>.undef) (g:=fun i=>(cs.drop (i*P.cellsOf e)).take (P.cellsOf e)) (l:=bl m) (fun i hi=>by
      have hi:i<m:=b5.1 hi;have N:=hf i hi;rw[be (by omega)]at N⊢;refine⟨wS n k e _ xs[i].1 xs[i].2 L N,?_⟩;have:(i+1)*P.cellsOf e<=m*P.cellsOf e:=Nat.mul_le_mul_right _ hi;rw[cd]at this;simp;omega)
   have v:((bl m).map fun i=>match xs[i]? with
    |some x=>bJ P n e x.1
    |none=>.undef)=(xs.map (·.1)).map (bJ P n e):=by
    apply List.ext_getElem
    ·simp[C]
    ·intro i W ae;simp at W;simp[be (show i<xs.length by omega)]
   rw[v,List.length_range]at Q;simp only[bJ,o,aU];refine⟨_,_,u,Q,?_⟩;rw[Js,b2 (by omega)]
  ·cases h
end
open Go.Proofs
def Fz:Array ax:=(Lib.pow10Tab.map fun z=>Value.int .u64 z).toArray
def aKP:Nat->Option (Array ax)
 |3=>some Fz
 |_=>none
instance aAv:Gl:=⟨fun _=>.undef,5,aKP,fun u=>bif Nat.beq u 353 then some 354 else none⟩
@[simp] theorem ki3:kindOf prog 3=.leaf:=by kernel_rfl
@[simp] theorem FC:prog.underlying 3=some (.int .i64):=by kernel_rfl
@[simp] theorem tz3:b9 prog 3=some (.int .i64 (0)):=by kernel_rfl
@[simp] theorem ki4:kindOf prog 4=.leaf:=by kernel_rfl
@[simp] theorem ib4:rW prog 4=true:=by kernel_rfl
@[simp] theorem tz4:b9 prog 4=some (.bool false):=by kernel_rfl
@[simp] theorem tz5:b9 prog 5=some (.int .u8 (0)):=by kernel_rfl
@[simp] theorem ki9:kindOf prog 9=.leaf:=by kernel_rfl
@[simp] theorem FE:prog.underlying 9=some .string:=by kernel_rfl
@[simp] theorem at9:jc prog 9=true:=by kernel_rfl
@[simp] theorem tz9:b9 prog 9=some (.str []):=by kernel_rfl
@[simp] theorem aOy:kindOf prog 22=.leaf:=by kernel_rfl
@[simp] theorem aLO:prog.underlying 22=some (.slice 202):=by kernel_rfl
@[simp] theorem aMK:jc prog 22=true:=by kernel_rfl
@[simp] theorem aNb:cG prog 22=some 2:=by kernel_rfl
@[simp] theorem aNy:eE prog 22=202:=by kernel_rfl
@[simp] theorem aOz:kindOf prog 23=.leaf:=by kernel_rfl
@[simp] theorem aLP:prog.underlying 23=some (.slice 91):=by kernel_rfl
@[simp] theorem aNc:cG prog 23=some 4:=by kernel_rfl
@[simp] theorem aOB:kindOf prog 24=.leaf:=by kernel_rfl
@[simp] theorem aLQ:prog.underlying 24=some (.slice 141):=by kernel_rfl
@[simp] theorem aNd:cG prog 24=some 3:=by kernel_rfl
@[simp] theorem aOD:kindOf prog 26=.agg 25:=by kernel_rfl
@[simp] theorem aQb:eU prog 26=some (25,4):=by kernel_rfl
@[simp] theorem aOE:kindOf prog 27=.leaf:=by kernel_rfl
@[simp] theorem aLR:prog.underlying 27=some (.slice 57):=by kernel_rfl
@[simp] theorem aNg:cG prog 27=some 3:=by kernel_rfl
@[simp] theorem aOG:kindOf prog 29=.agg 28:=by kernel_rfl
@[simp] theorem aQc:eU prog 29=some (28,4):=by kernel_rfl
@[simp] theorem aOI:kindOf prog 30=.leaf:=by kernel_rfl
@[simp] theorem FD:prog.underlying 30=some .string:=by kernel_rfl
@[simp] theorem aQP:b9 prog 30=some (.str []):=by kernel_rfl
@[simp] theorem aOJ:kindOf prog 32=.agg 31:=by kernel_rfl
@[simp] theorem aQd:eU prog 32=some (31,2):=by kernel_rfl
@[simp] theorem aQQ:b9 prog 32=some (.st 31 [.str [],.str []]):=by kernel_rfl
@[simp] theorem aOO:kindOf prog 37=.agg 36:=by kernel_rfl
@[simp] theorem aQf:eU prog 37=some (36,3):=by kernel_rfl
@[simp] theorem aQU:b9 prog 37=some (.st 36 [.str [],.str [],.str []]):=by kernel_rfl
@[simp] theorem aOP:kindOf prog 38=.leaf:=by kernel_rfl
@[simp] theorem aQV:b9 prog 38=some (.int .i64 (0)):=by kernel_rfl
@[simp] theorem aOS:kindOf prog 41=.leaf:=by kernel_rfl
@[simp] theorem aMM:jc prog 41=true:=by kernel_rfl
@[simp] theorem aNj:cG prog 41=some 4:=by kernel_rfl
@[simp] theorem aND:eE prog 41=140:=by kernel_rfl
@[simp] theorem aOT:kindOf prog 42=.leaf:=by kernel_rfl
@[simp] theorem aMN:jc prog 42=true:=by kernel_rfl
@[simp] theorem aNk:cG prog 42=some 3:=by kernel_rfl
@[simp] theorem aNE:eE prog 42=142:=by kernel_rfl
@[simp] theorem aOU:kindOf prog 44=.agg 43:=by kernel_rfl
@[simp] theorem aQg:eU prog 44=some (43,4):=by kernel_rfl
@[simp] theorem aQX:b9 prog 44=some (.st 43 [.aH,.int .i64 (0),.aH,.aH]):=by kernel_rfl
@[simp] theorem aOV:kindOf prog 46=.leaf:=by kernel_rfl
@[simp] theorem aMO:jc prog 46=true:=by kernel_rfl
@[simp] theorem aNl:cG prog 46=some 3:=by kernel_rfl
@[simp] theorem aNF:eE prog 46=117:=by kernel_rfl
@[simp] theorem aOW:kindOf prog 49=.agg 48:=by kernel_rfl
@[simp] theorem aQY:b9 prog 49=some (.st 48 [.st 36 [.str [],.str [],.str []],.st 36 [.str [],.str [],.str []]]):=by kernel_rfl
@[simp] theorem aOX:kindOf prog 57=.agg 56:=by kernel_rfl
@[simp] theorem aQh:eU prog 57=some (56,2):=by kernel_rfl
@[simp] theorem aQ0:b9 prog 57=some (.st 56 [.str [],.st 31 [.str [],.str []]]):=by kernel_rfl
@[simp] theorem aOY:kindOf prog 58=.agg 48:=by kernel_rfl
@[simp] theorem aQ1:b9 prog 58=some (.st 48 [.st 36 [.str [],.str [],.str []],.st 36 [.str [],.str [],.str []]]):=by kernel_rfl
@[simp] theorem aOZ:kindOf prog 62=.leaf:=by kernel_rfl
@[simp] theorem aMP:jc prog 62=true:=by kernel_rfl
@[simp] theorem aNm:cG prog 62=some 1:=by kernel_rfl
@[simp] theorem aNG:eE prog 62=3:=by kernel_rfl
@[simp] theorem aMQ:jc prog 68=true:=by kernel_rfl
@[simp] theorem aNn:cG prog 68=some 1:=by kernel_rfl
@[simp] theorem aNH:eE prog 68=9:=by kernel_rfl
@[simp] theorem aO1:kindOf prog 91=.agg 90:=by kernel_rfl
@[simp] theorem aQi:eU prog 91=some (90,4):=by kernel_rfl
@[simp] theorem aQ3:b9 prog 91=some (.st 90 [.str [],.int .i64 (0),.str [],.str []]):=by kernel_rfl
@[simp] theorem aOh:kindOf prog 117=.agg 56:=by kernel_rfl
@[simp] theorem aPW:eU prog 117=some (56,2):=by kernel_rfl
@[simp] theorem aQy:b9 prog 117=some (.st 56 [.str [],.st 31 [.str [],.str []]]):=by kernel_rfl
@[simp] theorem aOi:kindOf prog 122=.leaf:=by kernel_rfl
@[simp] theorem aOj:kindOf prog 123=.leaf:=by kernel_rfl
@[simp] theorem aM9:cG prog 123=some 1:=by kernel_rfl
@[simp] theorem aNw:eE prog 123=320:=by kernel_rfl
@[simp] theorem aOk:kindOf prog 125=.agg 124:=by kernel_rfl
@[simp] theorem aPX:eU prog 125=some (124,2):=by kernel_rfl
@[simp] theorem aQz:b9 prog 125=some (.st 124 [.int .i64 (0),.aH]):=by kernel_rfl
@[simp] theorem aOl:kindOf prog 127=.agg 126:=by kernel_rfl
@[simp] theorem aPY:eU prog 127=some (126,2):=by kernel_rfl
@[simp] theorem aQA:b9 prog 127=some (.st 126 [.st 124 [.int .i64 (0),.aH],.st 124 [.int .i64 (0),.aH]]):=by kernel_rfl
@[simp] theorem aOm:kindOf prog 129=.agg 128:=by kernel_rfl
@[simp] theorem aPZ:eU prog 129=some (128,4):=by kernel_rfl
@[simp] theorem aQB:b9 prog 129=some (.st 128 [.st 43 [.aH,.int .i64 (0),.aH,.aH],.aH,.fF,.st 126 [.st 124 [.int .i64 (0),.aH],.st 124 [.int .i64 (0),.aH]]]):=by kernel_rfl
@[simp] theorem aOn:kindOf prog 131=.agg 130:=by kernel_rfl
@[simp] theorem aP0:eU prog 131=some (130,2):=by kernel_rfl
@[simp] theorem aQC:b9 prog 131=some (.st 130 [.st 126 [.st 124 [.int .i64 (0),.aH],.st 124 [.int .i64 (0),.aH]],.st 126 [.st 124 [.int .i64 (0),.aH],.st 124 [.int .i64 (0),.aH]]]):=by kernel_rfl
@[simp] theorem aOo:kindOf prog 133=.agg 132:=by kernel_rfl
@[simp] theorem aP1:eU prog 133=some (132,3):=by kernel_rfl
@[simp] theorem aQD:b9 prog 133=some (.st 132 [.st 130 [.st 126 [.st 124 [.int .i64 (0),.aH],.st 124 [.int .i64 (0),.aH]],.st 126 [.st 124 [.int .i64 (0),.aH],.st 124 [.int .i64 (0),.aH]]],.st 130 [.st 126 [.st 124 [.int .i64 (0),.aH],.st 124 [.int .i64 (0),.aH]],.st 126 [.st 124 [.int .i64 (0),.aH],.st 124 [.int .i64 (0),.aH]]],.st 126 [.st 124 [.int .i64 (0),.aH],.st 124 [.int .i64 (0),.aH]]]):=by kernel_rfl
@[simp] theorem aOp:kindOf prog 137=.agg 136:=by kernel_rfl
@[simp] theorem aP2:eU prog 137=some (136,3):=by kernel_rfl
@[simp] theorem aQE:b9 prog 137=some (.st 136 [.st 126 [.st 124 [.int .i64 (0),.aH],.st 124 [.int .i64 (0),.aH]],.st 126 [.st 124 [.int .i64 (0),.aH],.st 124 [.int .i64 (0),.aH]],.st 126 [.st 124 [.int .i64 (0),.aH],.st 124 [.int .i64 (0),.aH]]]):=by kernel_rfl
@[simp] theorem aOq:kindOf prog 140=.agg 90:=by kernel_rfl
@[simp] theorem aP3:eU prog 140=some (90,4):=by kernel_rfl
@[simp] theorem aQF:b9 prog 140=some (.st 90 [.str [],.int .i64 (0),.str [],.str []]):=by kernel_rfl
@[simp] theorem aOr:kindOf prog 141=.agg 56:=by kernel_rfl
@[simp] theorem aP4:eU prog 141=some (56,2):=by kernel_rfl
@[simp] theorem aQG:b9 prog 141=some (.st 56 [.str [],.st 31 [.str [],.str []]]):=by kernel_rfl
@[simp] theorem aOs:kindOf prog 142=.agg 56:=by kernel_rfl
@[simp] theorem aP5:eU prog 142=some (56,2):=by kernel_rfl
@[simp] theorem aQH:b9 prog 142=some (.st 56 [.str [],.st 31 [.str [],.str []]]):=by kernel_rfl
@[simp] theorem aOt:kindOf prog 147=.agg 146:=by kernel_rfl
@[simp] theorem aP6:eU prog 147=some (146,3):=by kernel_rfl
@[simp] theorem aQI:b9 prog 147=some (.st 146 [.st 130 [.st 126 [.st 124 [.int .i64 (0),.aH],.st 124 [.int .i64 (0),.aH]],.st 126 [.st 124 [.int .i64 (0),.aH],.st 124 [.int .i64 (0),.aH]]],.st 130 [.st 126 [.st 124 [.int .i64 (0),.aH],.st 124 [.int .i64 (0),.aH]],.st 126 [.st 124 [.int .i64 (0),.aH],.st 124 [.int .i64 (0),.aH]]],.st 126 [.st 124 [.int .i64 (0),.aH],.st 124 [.int .i64 (0),.aH]]]):=by kernel_rfl
@[simp] theorem aOu:kindOf prog 169=.agg 168:=by kernel_rfl
@[simp] theorem aP7:eU prog 169=some (168,3):=by kernel_rfl
@[simp] theorem aQJ:b9 prog 169=some (.st 168 [.int .i64 (0),.st 130 [.st 126 [.st 124 [.int .i64 (0),.aH],.st 124 [.int .i64 (0),.aH]],.st 126 [.st 124 [.int .i64 (0),.aH],.st 124 [.int .i64 (0),.aH]]],.st 130 [.st 126 [.st 124 [.int .i64 (0),.aH],.st 124 [.int .i64 (0),.aH]],.st 126 [.st 124 [.int .i64 (0),.aH],.st 124 [.int .i64 (0),.aH]]]]):=by kernel_rfl
@[simp] theorem aOv:kindOf prog 171=.agg 170:=by kernel_rfl
@[simp] theorem aP8:eU prog 171=some (170,3):=by kernel_rfl
@[simp] theorem aOw:kindOf prog 200=.leaf:=by kernel_rfl
@[simp] theorem aNa:cG prog 200=some 1:=by kernel_rfl
@[simp] theorem aNx:eE prog 200=30:=by kernel_rfl
@[simp] theorem aOx:kindOf prog 202=.agg 201:=by kernel_rfl
@[simp] theorem aP9:eU prog 202=some (201,2):=by kernel_rfl
@[simp] theorem aQK:b9 prog 202=some (.st 201 [.int .i64 (0),.int .i64 (0)]):=by kernel_rfl
@[simp] theorem aOA:kindOf prog 236=.agg 235:=by kernel_rfl
@[simp] theorem aQa:eU prog 236=some (235,2):=by kernel_rfl
@[simp] theorem aQL:b9 prog 236=some (.st 235 [.bool false,.aH]):=by kernel_rfl
@[simp] theorem aNe:cG prog 246=some 1:=by kernel_rfl
@[simp] theorem aNz:eE prog 246=38:=by kernel_rfl
@[simp] theorem aOC:kindOf prog 247=.leaf:=by kernel_rfl
@[simp] theorem aML:jc prog 247=true:=by kernel_rfl
@[simp] theorem aNf:cG prog 247=some 33:=by kernel_rfl
@[simp] theorem aNA:eE prog 247=171:=by kernel_rfl
@[simp] theorem aQM:b9 prog 247=some (.aH):=by kernel_rfl
@[simp] theorem aOF:kindOf prog 289=.agg 288:=by kernel_rfl
@[simp] theorem aMH:iR prog 289=some (288,2):=by kernel_rfl
@[simp] theorem aQN:b9 prog 289=some (.st 288 [.st 126 [.st 124 [.int .i64 (0),.aH],.st 124 [.int .i64 (0),.aH]],.st 126 [.st 124 [.int .i64 (0),.aH],.st 124 [.int .i64 (0),.aH]]]):=by kernel_rfl
@[simp] theorem aNh:cG prog 318=some 2:=by kernel_rfl
@[simp] theorem aNB:eE prog 318=32:=by kernel_rfl
@[simp] theorem aOK:kindOf prog 320=.leaf:=by kernel_rfl
@[simp] theorem aQR:b9 prog 320=some (.int .u64 (0)):=by kernel_rfl
@[simp] theorem aOL:kindOf prog 340=.agg 340:=by kernel_rfl
@[simp] theorem aMI:iR prog 340=some (340,2):=by kernel_rfl
@[simp] theorem aQS:b9 prog 340=some (.st 340 [.st 288 [.st 126 [.st 124 [.int .i64 (0),.aH],.st 124 [.int .i64 (0),.aH]],.st 126 [.st 124 [.int .i64 (0),.aH],.st 124 [.int .i64 (0),.aH]]],.st 288 [.st 126 [.st 124 [.int .i64 (0),.aH],.st 124 [.int .i64 (0),.aH]],.st 126 [.st 124 [.int .i64 (0),.aH],.st 124 [.int .i64 (0),.aH]]]]):=by kernel_rfl
@[simp] theorem aOM:kindOf prog 352=.leaf:=by kernel_rfl
@[simp] theorem aNi:cG prog 352=some 1:=by kernel_rfl
@[simp] theorem aNC:eE prog 352=5:=by kernel_rfl
@[simp] theorem aON:kindOf prog 354=.agg 353:=by kernel_rfl
@[simp] theorem aQe:eU prog 354=some (353,2):=by kernel_rfl
@[simp] theorem aQT:b9 prog 354=some (.st 353 [.dR,.aH]):=by kernel_rfl
@[simp] theorem aOR:kindOf prog 409=.agg 408:=by kernel_rfl
@[simp] theorem aMJ:iR prog 409=some (408,256):=by kernel_rfl
@[simp] theorem aLt:dv prog 25=some [1,1,1,1]:=by kernel_rfl
@[simp] theorem aLu:dv prog 28=some [4,1,1,1]:=by kernel_rfl
@[simp] theorem aLv:dv prog 31=some [1,1]:=by kernel_rfl
@[simp] theorem aQv:dv prog 36=some [1,1,1]:=by kernel_rfl
@[simp] theorem aQw:dv prog 43=some [1,1,1,1]:=by kernel_rfl
@[simp] theorem aQx:dv prog 48=some [3,3]:=by kernel_rfl
@[simp] theorem Sn:dv prog 56=some [1,2]:=by kernel_rfl
@[simp] theorem aLw:dv prog 90=some [1,1,1,1]:=by kernel_rfl
@[simp] theorem aQj:dv prog 124=some [1,1]:=by kernel_rfl
@[simp] theorem aQk:dv prog 126=some [2,2]:=by kernel_rfl
@[simp] theorem aQl:dv prog 128=some [4,1,1,4]:=by kernel_rfl
@[simp] theorem aQm:dv prog 130=some [4,4]:=by kernel_rfl
@[simp] theorem aQn:dv prog 132=some [8,8,4]:=by kernel_rfl
@[simp] theorem aQo:dv prog 136=some [4,4,4]:=by kernel_rfl
@[simp] theorem aQp:dv prog 146=some [8,8,4]:=by kernel_rfl
@[simp] theorem aQq:dv prog 168=some [1,8,8]:=by kernel_rfl
@[simp] theorem aQr:dv prog 170=some [17,4,12]:=by kernel_rfl
@[simp] theorem aLs:dv prog 201=some [1,1]:=by kernel_rfl
@[simp] theorem aQs:dv prog 235=some [1,1]:=by kernel_rfl
@[simp] theorem aQt:dv prog 288=some [4,4]:=by kernel_rfl
@[simp] theorem aQu:dv prog 340=some [8,8]:=by kernel_rfl
set_option maxRecDepth 100000
section
variable{H:Type}{w:a1}{ad:Nat->Prop}
theorem Gp{P:a0}:∀{l:List Nat}{d:List PV}{b:List (List ax)},bk P w ad l d b->∀e∈d,∃c,aU P w ad e c
 |_,[],_,_=>fun e a=>by cases a
 |[],v::vs,_,h=>by simp[bk]at h
 |n::i,v::vs,b,h=>by
  simp only[bk]at h;obtain⟨c,cs,_,f,_,g⟩:=h;intro e a;rcases b1.1 a with rfl|a
  ·exact⟨c,f⟩
  ·exact Gp g e a
theorem yu{n:Nat}(d:aT H)(c)(h:aU prog w ad (bJ prog (n+1) 3 d) c):∃z:Int,bJ prog (n+1) 3 d=.int .i64 z:=by
 cases d with
 |lit l=>
  cases l with
  |int k z=>
   simp only[bJ,FC]at h⊢
   split at h
   ·rename_i a;rw[if_pos a];exact⟨_,rfl⟩
   ·simp only[aU]at h
  |_=>simp only[bJ,FC,aU]at h
 |_=>simp only[bJ,FC,aU]at h
end
theorem Jc{P:a0}{W:a1}{name:String}{d:aT Unit}:∀{l:List (String×aT Unit)}{b:List av},DataW.LaidVars P W l b->(name,d)∈l->
 ∃g t cs a p,P.globalNamed name=some g/\(P.globals[g]?).map (·.type)=some t/\W.var? P name=some cs/\a3 (fun _=>()) P W 0 (fun _=>true) false a t cs.toList=some (d,p)/\∀x∈MemPlace.row ⟨g,0,none⟩ cs.size,x∈b
 |[],_,_,h=>by cases h
 |(n,d0)::r,b,h,hm=>by
  obtain⟨g,t,cs,a,p,q,j,k,m,o,s,rfl⟩:=h;rcases b1.1 hm with e|hm
  ·cases e;exact⟨g,t,cs,a,p,j,k,m,o,fun x hx=>by simp[hx]⟩
  ·obtain⟨i,v,c,f,u,k1,k2,k3,k4,k5⟩:=Jc s hm;exact⟨i,v,c,f,u,k1,k2,k3,k4,fun x hx=>by simp[k5 x hx]⟩
open Go.Proofs Go.Proofs.YthmfmhbicipdmaaGreatDoor
theorem K4:prog.globalNamed "internal/strconv.uint64pow10" =some 3:=by kernel_rfl
theorem VF:((Rows.aimFirstsUptoRow.laid).filter fun x=>x.2.handleName?.isSome)=[]:=by kernel_rfl
theorem aKI:(prog.globals[3]?).map (·.type)=some 415:=by kernel_rfl
theorem aKJ:prog.underlying 415=some (.array 20 320):=by kernel_rfl
theorem aKG:prog.underlying 320=some (.int .u64):=by kernel_rfl
theorem aKE:prog.cellsOf 320=1:=by kernel_rfl
theorem aKF:prog.cellsOf 415=20:=by kernel_rfl
theorem aAw{W:a1}(h:laidMetH prog Rows.aimFirstsUptoRow.laid W):nG prog W (fun k=>k<W.heap.size):=by
 unfold laidMetH at h;rw[VF]at h;obtain⟨n,j,_,l⟩:=h;obtain⟨g,t,cs,fuel,p,k1,k2,k3,k4,k5⟩:=Jc (name:= "internal/strconv.uint64pow10") (d:=Lib.tabData .u64 Lib.pow10Tab) j (by
  show _∈[_,_,_,_,_,_,_];exact bf _ (bf _ bi))
 rw[K4]at k1;cases k1;rw[aKI]at k2;cases k2;have f:=Lib.cells_of_tab aKJ aKG aKE aKF k4;have e:cs=Fz:=by rw[Fz,<-f]
 have i:0<cs.size:=by rw[e];decide
 obtain⟨⟨c,T,b⟩,_⟩:=l 3 0 (k5 _ (by simp[MemPlace.row];exact i));refine⟨fun g=>by simp[aD,Gl.g],fun g m a=>?_⟩
 match g,a with
 |3,a=>
  cases a;refine⟨(am.1 b).1,T,?_⟩;simp only[World.var?,K4,Option.bind_some,b,Option.some.injEq]at k3;rw[b,k3,e]
section
variable[Gl]{P:a0}
theorem ZA{f:FuncId}{args:List PV}{v:PV}(g:Enters P f)(h:au P f args v){w:a1}{ad:Nat->Prop}{a:List ax}(d:∀k,ad k->k<w.heap.size)(i:nG P w ad)(c:bK P w ad args a):
 Calls P f a.toArray w fun e w'=>∃b,∃aF:Nat->Prop,e=.returned b/\w.heap.size<=w'.heap.size/\(∀k,k<w.heap.size->w'.heap[k]?=w.heap[k]?)/\(w'.os=w.os/\w'.output=w.output)/\aD P w' aF v b:=by
 rcases h with h|h
 ·refine(h.2 w ad a d i c).mono ?_;rintro e w' ⟨b,aF,k1,_,_,_,k5,k6,j,k7⟩;exact⟨b,aF,k1,k5,k6,j,k7⟩
 ·obtain⟨b,k1,_⟩:=h w ad a c;rw[g a.toArray w]at k1;cases k1
theorem aJF{w w':a1}(h:∀k,k<w.heap.size->w'.heap[k]?=w.heap[k]?)(a:w'.os=w.os/\w'.output=w.output)(b:av->Prop):w.keptBut w' b:=by
 refine⟨a.1,a.2,fun i hi=>?_⟩;rw[h i hi];cases w.heap[i]? with
 |none=>rfl
 |some o=>cases o<;>first|exact⟨rfl,rfl,rfl,fun _ _=>rfl⟩|exact .inr ⟨rfl,rfl⟩|rfl
theorem aK5{w w':a1}(h:∀k,k<w.heap.size->w'.heap[k]?=w.heap[k]?){p:av}(a:p.block<w.heap.size):w.sameAt w' p:=by
 cases p with
 |cell b o=>simp only[bb,a9];rw[h b a]
 |map b=>simp only[bb];rw[h b a]
theorem V3{H:Type}{e:ay×ax->H}{f:Func}{s:a2}{apart fresh handsOn:Bool}{W c:a1}{args:Array ax}{v:ax}{d g:List (aT H)}{a pa pv:List av}
 (j:a5 e P f.params.toList s.vars apart W args.toList d g a)
 (o:∀(b:Nat)(sp:Nat->Bool)(m:Bool),a4 e P c b sp m f.resultTypes.toList (v.resultList f.resultTypes.size) (s.fn H (d++g)).results [])
 (l:∀sp:Nat->Bool,(∀p∈a,sp p.block=true)->a4 e P c 0 sp true f.params.toList args.toList (s.fn H (d++g)).args pa)
 (q:∀sp:Nat->Bool,(∀p∈a,sp p.block=true)->DataW.TrodVars e P c sp s.vars (s.fn H (d++g)).vars pv)
 (n:a=pa++pv)(hk:W.keptBut c (·∈a)):s.post e P f apart fresh handsOn false W args v c:=by
 have k:∀p∈a,(fun b=>decide (b<W.heap.size)) p.block=true:=fun p i=>by simpa using j.lt p i
 refine⟨d,g,a,[],pa,pv,j,o _ _ _,l _ k,q _ k,World.keptBut_mono (fun p i=>⟨i,?_⟩) hk,fun h=>by cases h⟩;rw[n,List.mem_append]at i;exact Or.inr i
end
section
variable{H:Type}{enc:ay×ax->H}{P:a0}{w:a1}
theorem Yd{n:Nat}{t:ay}{d:aT H}{cs:List ax}{ad:Nat->Prop}(h:aU P w ad (bJ P n t d) cs):
 (((∃fs,P.underlying t=some (.struct fs))\/∃m e,P.underlying t=some (.array m e))/\∃u,aI (bJ P n t d)=.agg u)\/((P.underlying t=some .bool\/(∃k,P.underlying t=some (.int k))\/P.underlying t=some .string\/∃e,P.underlying t=some (.slice e))/\aI (bJ P n t d)=.leaf):=by
 cases n with
 |zero=>simp only[bJ,aU]at h
 |succ n=>
  unfold bJ at h⊢
  split at h
  ·rename_i a;exact .inr ⟨.inl a,rfl⟩
  ·rename_i k z a
   split at h
   ·rename_i b;rw[if_pos b];exact .inr ⟨.inr (.inl ⟨_,a⟩),rfl⟩
   ·simp only[aU]at h
  ·rename_i a;exact .inr ⟨.inr (.inr (.inl a)),rfl⟩
  ·rename_i a;exact .inr ⟨.inr (.inr (.inr ⟨_,a⟩)),rfl⟩
  ·rename_i a;exact .inr ⟨.inr (.inr (.inr ⟨_,a⟩)),rfl⟩
  ·rename_i a;exact .inl ⟨.inl ⟨_,a⟩,_,rfl⟩
  ·rename_i a;exact .inl ⟨.inr ⟨_,_,a⟩,_,rfl⟩
  ·simp only[aU]at h
theorem Yb[Gl]{n:Nat}{t:ay}{v:ax}{d:aT H}{f:List av}{g i:Nat}{r:Reach}(j:mf P n t=true)(h:DataW.Trod enc P w g (fun _=>true) true t v d f)(b:a6 P w r i t v):
 aD P w (fun k=>k<w.heap.size) (bJ P n t d) v:=by
 obtain⟨fuel,h⟩:=h;have hc:=wS n fuel t _ d f j h;rcases Yd hc with⟨a,u,hs⟩|⟨a,hs⟩
 ·have:∃cs,v=.agg cs:=by
   rcases a with⟨fs,a⟩|⟨m,e,a⟩
   ·simp only[a6,a]at b;obtain⟨cs,rfl,_,_⟩:=b;exact⟨cs,rfl⟩
   ·simp only[a6,a]at b;obtain⟨cs,rfl,_,_⟩:=b;exact⟨cs,rfl⟩
  obtain⟨cs,rfl⟩:=this;rw[xc hs]at hc;simpa[a7]using hc
 ·rw[ug hs]at hc;obtain⟨c,hc,l⟩:=hc;have:v=c:=by
   cases v with
   |agg cs=>rcases a with a|⟨k,a⟩|a|⟨e,a⟩<;>simp[a6,a,Cell.okWide,Cell.ok]at b
   |_=>simpa[a7]using hc
  rw[this];exact l
def sD(P:a0)(n:Nat):List ay->List (aT H)->List PV
 |t::ts,d::ds=>bJ P n t d::sD P n ts ds
 |_,_=>[]
theorem CV[Gl]{n:Nat}{base:Nat}{r:Reach}:∀{ts:List ay}{vs:List ax}{ds:List (aT H)}{h:List av},(∀t∈ts,mf P n t=true)->a4 enc P w 0 (fun _=>true) true ts vs ds h->
 (∀(j:Nat) t v,ts[j]?=some t->vs[j]?=some v->a6 P w r base t v)->bK P w (fun k=>k<w.heap.size) (sD P n ts ds) vs/\ds.length=ts.length
 |[],[],[],_,_,_,_=>by simp[sD,bK]
 |t::ts,v::vs,d::ds,_,b,⟨p,q,e,f,_⟩,c=>by
  have⟨i1,i2⟩:=CV (ts:=ts) (vs:=vs) (ds:=ds) (fun t a=>b t (bf _ a)) f (fun j t v a g=>c (j+1) t v (by simpa using a) (by simpa using g));refine⟨?_,by simp[i2]⟩;simp only[sD,bK];exact⟨v,vs,rfl,Yb (b t bi) e (c 0 t v rfl rfl),i1⟩
theorem LH{n:Nat}:∀{ts:List ay}{vs:List ax}{ds:List (aT H)}{g:List av},(∀t∈ts,mf P n t=true)->a4 enc P w 0 (fun _=>true) true ts vs ds g->
 ∀p∈ts.zip ds,∃cs,aU P w (fun k=>k<w.heap.size) (bJ P n p.1 p.2) cs
 |[],[],[],_,_,_=>by simp
 |t::ts,v::vs,d::ds,_,a,⟨p,q,⟨fuel,b⟩,c,_⟩=>by
  have f:=LH (ts:=ts) (vs:=vs) (ds:=ds) (fun t e=>a t (bf _ e)) c;intro x hx;rw[b3]at hx;rcases b1.1 hx with rfl|hx
  ·exact⟨_,wS n fuel t _ d p (a t bi) b⟩
  ·exact f x hx
theorem I6{w':a1}{f:Nat}{g:Nat->Bool}{held:Bool}:∀{c:List ay}{vs:List ax}{a:List (aT H)}{b:List av},a4 enc P w f g held c vs a b->(∀p∈b,w.sameAt w' p)->
 a4 enc P w' f g held c vs a b
 |[],[],[],_,h,_=>h
 |t::c,v::vs,d::a,_,⟨p,q,⟨n,i⟩,j,e⟩,hs=>by
  subst e;exact⟨p,q,⟨n,DataW.trod_carry n _ _ _ i fun x hx=>hs x (List.mem_append_left _ hx)⟩,I6 j fun x hx=>hs x (List.mem_append_right _ hx),rfl⟩
theorem UI[Gl]{f:FuncId}{fn:Func}{s:a2}{n:Nat}{T:ay->Prop}(u:s.vars=[])(D:∀(H:Type)(a:List (aT H)),a.length=fn.params.size->(s.fn H a).results=[.lit (.bool true)]/\(s.fn H a).args=a/\(s.fn H a).vars=[])
 (K:Kids P T)(O:∀t e,T t->P.underlying t=some (.slice e)->0<P.cellsOf e)(z:∀t∈fn.params.toList,T t)(r:∀t∈fn.params.toList,mf P n t=true){tb:ay}(J:fn.resultTypes=#[tb])(B:P.underlying tb=some .bool)
 (C:Enters P f){W:a1}{args:Array ax}{a c:List (aT H)}{y:List av}{w:Nat}(E:nG P W (fun k=>k<W.heap.size))
 (F:(∀p∈fn.params.toList.zip a,∃cs,aU P W (fun k=>k<W.heap.size) (bJ P n p.1 p.2) cs)->au P f (sD P n fn.params.toList a) (.bool true))
 (N:∀(j:Nat) t v,fn.params[j]?=some t->args[j]?=some v->a6 P W .any w t v)
 (o:a5 enc P fn.params.toList s.vars false W args.toList a c y):
 Calls P f args W fun e l=>∃v,e=.returned v/\s.post enc P fn false true false false W args v l:=by
 have A:=o;obtain⟨p,q,d,h,rfl,R,S⟩:=o;rw[u]at h;have⟨i,hlen⟩:=CV r d (fun j t v L M=>N j t v (by simpa using L) (by simpa using M));have G:c=[]/\q=[]:=by
  cases c with
  |nil=>exact⟨rfl,h⟩
  |cons g c=>exact h.elim
 obtain⟨rfl,rfl⟩:=G;have hc:=ZA C (F (LH r d)) (fun k hk=>hk) E i;refine hc.mono ?_;rintro e l ⟨m,aF,rfl,k1,k2,k3,k4⟩;refine⟨m,rfl,?_⟩;obtain⟨f1,f2,f3⟩:=D H (a++[]) (by simpa using hlen);have e1:m=.bool true:=by simpa[aD]using k4
 have I:=DataW.TrodAll.lt d;refine V3 (pa:=p) (pv:=[]) A ?_ ?_ ?_ rfl (aJF k2 k3 _)
 ·intro b sp Q;rw[f1,J,e1];refine⟨[],[],⟨1,?_⟩,rfl,rfl⟩;simp[a3,B,a7]
 ·intro sp hs;rw[f2];simp only[List.append_nil]at hs⊢;exact I6 (DataW.TrodAll.respare K O z d fun p i=>hs p i) fun x hx=>aK5 k2 (I x hx)
 ·intro sp hs;rw[f3,u];rfl
end
end Go.ak
