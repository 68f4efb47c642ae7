import Derived.Test.YthmfmhbicipdmaaGreatDoorThE
import Derived.Deep.Slices
import Derived.Test.YthmfmhbicipdmaaGreatDoorProg
import Derived.KernelRfl
import Derived.Lib.ItoaNum
import Derived.Test.YthmfmhbicipdmaaGreatDoorRows
import Derived.Lib.LaidTab
import Derived.ReadAgain
import Derived.ChangeOld
import Derived.RowKit3
import Derived.ChangeSame
import Derived.WideShapes
/- Parts of a proof. -/
set_option linter.unusedSimpArgs false
set_option linter.unusedVariables false
set_option linter.unusedSectionVars false
open Go.Proofs.Tryz
open Array renaming getElem?_eq_some_iff->am
open Bool renaming and_eq_true->ao
open Go renaming MemPlace->ap, Value->av, TypeId->ax, DataW->ay, Program->aT, World->a2, ChangeSpec->a3
open Go.DataW renaming trod->a4, TrodAll->a5, Whole->a6
open Go.Value renaming okWide->a7, cells->a8
open Go.World renaming cells?_some->a9, cell?->bb, sameAt->be
open List renaming getElem?_eq_getElem->bi, mem_cons_of_mem->bl, mem_cons_self->bo, range->bp, flatten_append->bv, map_cons->bI, range_succ->bV, map_append->b2, mem_cons->b3, take_of_length_le->b4, zip_cons_cons->b5, replicate->cb, mem_range->cc, take_add->ce, sum_cons->ch
open Nat renaming succ_mul->ck
namespace Go.ah
open Go.Deep
section
variable{H:Type}
def bu(P:aT):Nat->ax->ay H->PV
 |0,_,_=>.undef
 |n+1,t,d=>match P.underlying t,d with
  |some .bool,.lit (.bool b)=>.bool b
  |some (.int k),.lit (.int _ z)=>if(Lit.int k z).wf=true then .int k z else .undef
  |some .string,.lit (.string s)=>.str (s.map (·.toNat))
  |some (.slice e),.slice ds _=>.seq (ds.map (bu P n e))
  |some (.slice _),.nil=>.seq []
  |some (.struct fs),.agg ds=>.st (P.underlyingId t) ((fs.toList.zip ds).map fun p=>bu P n p.1.type p.2)
  |some (.array _ e),.agg ds=>.st (P.underlyingId t) (ds.map (bu P n e))
  |_,_=>.undef
def zY(P:aT):Nat->List Field->Bool
 |_,[]=>true
 |o,f::fs=>(f.offset==o)&&zY P (o+P.cellsOf f.type) fs
def lU(P:aT):Nat->ax->Bool
 |0,_=>false
 |n+1,t=>match P.underlying t with
  |some .bool|some (.int _)|some .string=>true
  |some (.slice e)=>lU P n e&&decide (0<P.cellsOf e)
  |some (.struct fs)=>(dD P (P.underlyingId t)==some (fs.toList.map fun f=>P.cellsOf f.type))&&zY P 0 fs.toList&&(((fs.toList.map fun f=>P.cellsOf f.type).sum)==P.cellsOf t)&&fs.toList.all fun f=>lU P n f.type
  |some (.array m e)=>(dD P (P.underlyingId t)==some (cb m (P.cellsOf e)))&&(m*P.cellsOf e==P.cellsOf t)&&lU P n e
  |_=>false
variable{enc:ax×av->H}{P:aT}{w:a2}{base:Nat}{held:Bool}
theorem ON{n k:Nat}{ad:Nat->Prop}(l:∀t cs d u,lU P n t=true->a4 enc P w base (fun _=>true) held k t cs=some (d,u)->aW P w ad (bu P n t d) cs):
 ∀(fs:List Field)(a:List (ay H×List ap))(o:Nat)(cs:List av),zY P o fs=true->a.length=fs.length->(∀f∈fs,lU P n f.type=true)->o+(fs.map fun f=>P.cellsOf f.type).sum<=cs.length->
  (∀(i:Nat)(f:Field),fs[i]?=some f->a4 enc P w base (fun _=>true) held k f.type ((cs.drop f.offset).take (P.cellsOf f.type))=a[i]?)->
  bm P w ad (fs.map fun f=>P.cellsOf f.type) ((fs.zip (a.map (·.1))).map fun p=>bu P n p.1.type p.2) (fs.map fun f=>(cs.drop f.offset).take (P.cellsOf f.type))/\
   (fs.map fun f=>(cs.drop f.offset).take (P.cellsOf f.type)).flatten=(cs.drop o).take (fs.map fun f=>P.cellsOf f.type).sum
 |[],a,o,cs,_,b,_,_,_=>by
  have:a=[]:=by simpa using b
  subst this;simp[bm]
 |f::fs,[],o,cs,_,b,_,_,_=>by simp at b
 |f::fs,x::a,o,cs,c,b,h,hlen,hx=>by
  simp only[zY,ao,beq_iff_eq]at c;obtain⟨c,s⟩:=c;simp only[bI,ch]at hlen;have j:=hx 0 f rfl;simp only[List.getElem?_cons_zero]at j;have m:=l _ _ x.1 x.2 (h f bo) j;have⟨q,r⟩:=ON l fs a (o+P.cellsOf f.type) cs s (by simpa using b) (fun g e=>h g (bl _ e)) (by omega) (fun i g e=>by have:=hx (i+1) g (by simpa using e);simpa using this);refine⟨?_,?_⟩
  ·simp only[bI,b5,bm];exact⟨_,_,rfl,m,by simp[c];omega,q⟩
  ·simp only[bI,List.flatten_cons,ch,r,c];rw[<-List.drop_drop,ce]
theorem Cb{aj len:Nat}{ad:Nat->Prop}{f:Nat->PV}{g:Nat->List av}:∀{l:List Nat},(∀i∈l,aW P w ad (f i) (g i)/\(g i).length=aj)->bm P w ad (cb l.length aj) (l.map f) (l.map g)
 |[],_=>by simp[bm]
 |a::l,h=>by
  simp only[List.length_cons,List.replicate_succ,bI,bm];exact⟨_,_,rfl,(h a bo).1,(h a bo).2,Cb (len:=len) fun i hi=>h i (bl _ hi)⟩
theorem trod_array{m:Nat}{e t:ax}{b:Nat}{cs:List av}{x:ay H×List ap}{d:Nat->Bool}(g:P.underlying t=some (.array m e))(h:a4 enc P w base d held b t cs=some x):
 ∃(a:List (ay H×List ap))(n:Nat),b=n+1/\x=(.agg (a.map (·.1)),a.flatMap (·.2))/\cs.length=P.cellsOf t/\a.length=m/\
  ∀i,i<m->a4 enc P w base d held n e ((cs.drop (i*P.cellsOf e)).take (P.cellsOf e))=a[i]?:=by
 cases b with
 |zero=>simp[a4]at h
 |succ n=>
  unfold a4 at h;rw[g]at h
  split at h<;>simp_all
  obtain⟨j,a,c,f⟩:=h;exact⟨a,f.symm,by simpa using mapM_some_length c,fun i hi=>mapM_some_get c i i (by simp[hi])⟩
theorem Jz{α:Type}{cs:List α}{aj:Nat}:∀m,((bp m).map fun i=>(cs.drop (i*aj)).take aj).flatten=cs.take (m*aj)
 |0=>by simp
 |m+1=>by
  rw[bV,b2,bv,Jz m,ck,ce];simp
theorem Dd{V:Nat->List av}{aj:Nat}:∀(len:Nat),(∀i,i<len->(V i).length=aj)->((bp len).map V).flatten.length=len*aj
 |0,_=>by simp
 |len+1,h=>by
  rw[bV,b2,bv,List.length_append,Dd len fun i hi=>h i (by omega),ck];simp[h len (by omega)]
theorem J8{V:Nat->List av}{aj b o:Nat}:∀(len:Nat),(∀i,i<len->(V i).length=aj)->(∀i,i<len->∀j,j<aj->w.cell? ⟨b,o+(i*aj+j),none⟩=(V i)[j]?)->gX w b o ((bp len).map V).flatten
 |0,_,_=>by intro i hi;simp at hi
 |len+1,h,hc=>by
  intro i hi;have a:=Dd (V:=V) (aj:=aj) len fun i hi=>h i (by omega);have c:=J8 (V:=V) (aj:=aj) (b:=b) (o:=o) len (fun i hi=>h i (by omega)) (fun i hi=>hc i (by omega));have e:((bp (len+1)).map V).flatten=((bp len).map V).flatten++V len:=by
   rw[bV,b2,bv];simp
  have f:i<len*aj+aj:=by
   have:=Dd (V:=V) (aj:=aj) (len+1) h;rw[ck]at this;omega
  rw[<-bi hi,e]
  by_cases d:i<len*aj
  ·rw[List.getElem?_append_left (by omega),bi (by omega)];exact c i (by omega)
  ·rw[List.getElem?_append_right (by omega),a];have:=hc len (by omega) (i-len*aj) (by omega);rw[<-this];congr 3;omega
theorem vW:∀(n:Nat)(J:Nat)(t:ax)(cs:List av)(d:ay H)(r:List ap),lU P n t=true->a4 enc P w base (fun _=>true) held J t cs=some (d,r)->
 aW P w (fun k=>k<w.heap.size) (bu P n t d) cs
 |0,_,_,_,_,_,h,_=>by simp[lU]at h
 |n+1,J,t,cs,d,r,h,p=>by
  simp only[lU]at h
  split at h
  ·rename_i o;obtain⟨b,rfl,hx⟩:=DataW.trod_bool o p;cases hx;simp[bu,o,aW]
  ·rename_i k o;obtain⟨z,rfl,hx,E⟩:=DataW.trod_int o p;cases hx;simp[bu,o,E,aW]
  ·rename_i o;obtain⟨s,rfl,hx,_⟩:=DataW.trod_string o p;cases hx;simp[bu,o,aW]
  ·rename_i e o;simp only[ao,decide_eq_true_eq]at h;obtain⟨v,B⟩:=h;rcases open_slice o p with⟨rfl,hx⟩|⟨a,len,cap,m,k,D,S,rfl,ac,Y,af,O,hx,U⟩
   ·cases hx;simp[bu,o,aW]
   cases hx;simp only[if_true]at O;subst O;obtain⟨V,q⟩:=choose_lt U;have R:a.spot=none\/m=0:=by
    by_cases E:m=0
    ·exact .inr E
    left;obtain⟨c1,_⟩:=q 0 (by omega);obtain⟨_,c2,c3⟩:=a9 c1;have c4:=c3 0 B;rw[bi (by omega)]at c4;simp only[Addr.add,Nat.zero_mul,if_true]at c4;unfold bb at c4
    split at c4
    ·split at c4
     ·cases c4
     ·rename_i hs;simpa using hs
    ·cases c4
   have M:∀i,i<m->∀j,j<P.cellsOf e->w.cell? ⟨a.block,a.off+(i*P.cellsOf e+j),none⟩=(V i)[j]?:=by
    intro i hi j X;have hs:a.spot=none:=R.resolve_right (by omega);obtain⟨_,_,c3⟩:=a9 (q i hi).1;have:=c3 j X;rw[add_add]at this;rw[<-this];obtain⟨F,G,I⟩:=a;simp only at hs;subst hs;unfold Addr.add;split<;>simp_all
   have A:∀i,i<m->(V i).length=P.cellsOf e:=fun i hi=>(a9 (q i hi).1).2.1;simp only[bu,o,aW];right;obtain⟨F,G,I⟩:=a;refine⟨F,G,m,P.cellsOf e,(bp len).map V,?_,?_,?_,by simpa using Y,I,R,by simp⟩
   ·have:=Cb (P:=P) (w:=w) (len:=len) (aj:=P.cellsOf e) (ad:=fun k=>k<w.heap.size) (f:=fun i=>bu P n e (D i)) (g:=V) (l:=bp len) (fun i hi=>by
     have hi:i<m:=by have:=cc.1 hi;omega
     exact⟨vW n k e (V i) (D i) (S i) v (q i hi).2,A i hi⟩)
    simpa[Function.comp_def]using this
   ·intro Z;have ab:0<len:=by
     rcases Nat.eq_zero_or_pos len with h|h
     ·subst h;simp at Z
     ·exact h
    have c:=M 0 (by omega) 0 B;rw[bi (by rw[A 0 (by omega)];exact B)]at c;unfold bb at c
    split at c
    ·rename_i y;exact(am.1 y).1
    ·cases c
   ·exact J8 len (fun i hi=>A i (by omega)) (fun i hi=>M i (by omega))
  ·rename_i fs o;simp only[ao,beq_iff_eq,List.all_eq_true]at h;obtain⟨⟨⟨u,K⟩,L⟩,T⟩:=h;obtain⟨xs,k,rfl,hx,hlen,C,hf⟩:=DataW.trod_struct o p;cases hx;have⟨g1,g2⟩:=ON (ad:=fun k=>k<w.heap.size) (fun t cs d r aa y=>vW n k t cs d r aa y) fs.toList xs 0 cs K (by simpa using C) T (by omega) (fun i f hi=>hf i f (by simpa using hi));simp only[bu,o,aW];refine⟨_,_,u,g1,?_⟩;rw[g2,List.drop_zero,b4 (by omega)]
  ·rename_i m e o;simp only[ao,beq_iff_eq]at h;obtain⟨⟨u,K⟩,L⟩:=h;obtain⟨xs,k,rfl,hx,hlen,C,hf⟩:=trod_array o p;cases hx;have Q:=Cb (P:=P) (w:=w) (len:=m) (aj:=P.cellsOf e) (ad:=fun k=>k<w.heap.size) (f:=fun i=>match xs[i]? with
     |some x=>bu P n e x.1
     |none=>.undef) (g:=fun i=>(cs.drop (i*P.cellsOf e)).take (P.cellsOf e)) (l:=bp m) (fun i hi=>by
      have hi:i<m:=cc.1 hi;have N:=hf i hi;rw[bi (by omega)]at N⊢;refine⟨vW n k e _ xs[i].1 xs[i].2 L N,?_⟩;have:(i+1)*P.cellsOf e<=m*P.cellsOf e:=Nat.mul_le_mul_right _ hi;rw[ck]at this;simp;omega)
   have v:((bp m).map fun i=>match xs[i]? with
    |some x=>bu P n e x.1
    |none=>.undef)=(xs.map (·.1)).map (bu P n e):=by
    apply List.ext_getElem
    ·simp[C]
    ·intro i W ae;simp at W;simp[bi (show i<xs.length by omega)]
   rw[v,List.length_range]at Q;simp only[bu,o,aW];refine⟨_,_,u,Q,?_⟩;rw[Jz,b4 (by omega)]
  ·cases h
end
open Go.Proofs
def Fw:Array av:=(Lib.pow10Tab.map fun z=>Value.int .u64 z).toArray
def aKm:Nat->Option (Array av)
 |3=>some Fw
 |_=>none
instance az9:Gl:=⟨fun _=>.undef,5,aKm,fun u=>bif Nat.beq u 353 then some 354 else none⟩
@[simp] theorem ki3:kindOf prog 3=.leaf:=by kernel_rfl
@[simp] theorem Fz:prog.underlying 3=some (.int .i64):=by kernel_rfl
@[simp] theorem tz3:cz prog 3=some (.int .i64 (0)):=by kernel_rfl
@[simp] theorem ki4:kindOf prog 4=.leaf:=by kernel_rfl
@[simp] theorem ib4:rD prog 4=true:=by kernel_rfl
@[simp] theorem tz4:cz prog 4=some (.bool false):=by kernel_rfl
@[simp] theorem tz5:cz prog 5=some (.int .u8 (0)):=by kernel_rfl
@[simp] theorem ki9:kindOf prog 9=.leaf:=by kernel_rfl
@[simp] theorem uV:prog.underlying 9=some .string:=by kernel_rfl
@[simp] theorem at9:iX prog 9=true:=by kernel_rfl
@[simp] theorem tz9:cz prog 9=some (.str []):=by kernel_rfl
@[simp] theorem aNV:kindOf prog 22=.leaf:=by kernel_rfl
@[simp] theorem aLj:prog.underlying 22=some (.slice 202):=by kernel_rfl
@[simp] theorem aMg:iX prog 22=true:=by kernel_rfl
@[simp] theorem aMF:cH prog 22=some 2:=by kernel_rfl
@[simp] theorem aMW:er prog 22=202:=by kernel_rfl
@[simp] theorem aNW:kindOf prog 23=.leaf:=by kernel_rfl
@[simp] theorem aLk:prog.underlying 23=some (.slice 91):=by kernel_rfl
@[simp] theorem aMG:cH prog 23=some 4:=by kernel_rfl
@[simp] theorem aNY:kindOf prog 24=.leaf:=by kernel_rfl
@[simp] theorem aLl:prog.underlying 24=some (.slice 141):=by kernel_rfl
@[simp] theorem aMH:cH prog 24=some 3:=by kernel_rfl
@[simp] theorem aNZ:kindOf prog 26=.agg 25:=by kernel_rfl
@[simp] theorem aPw:fg prog 26=some (25,4):=by kernel_rfl
@[simp] theorem aN1:kindOf prog 27=.leaf:=by kernel_rfl
@[simp] theorem aLm:prog.underlying 27=some (.slice 57):=by kernel_rfl
@[simp] theorem aMK:cH prog 27=some 3:=by kernel_rfl
@[simp] theorem aN3:kindOf prog 29=.agg 28:=by kernel_rfl
@[simp] theorem aPx:fg prog 29=some (28,4):=by kernel_rfl
@[simp] theorem aN5:kindOf prog 30=.leaf:=by kernel_rfl
@[simp] theorem FA:prog.underlying 30=some .string:=by kernel_rfl
@[simp] theorem aP6:cz prog 30=some (.str []):=by kernel_rfl
@[simp] theorem aN6:kindOf prog 32=.agg 31:=by kernel_rfl
@[simp] theorem aPy:fg prog 32=some (31,2):=by kernel_rfl
@[simp] theorem aP7:cz prog 32=some (.st 31 [.str [],.str []]):=by kernel_rfl
@[simp] theorem aOb:kindOf prog 38=.leaf:=by kernel_rfl
@[simp] theorem aQb:cz prog 38=some (.int .i64 (0)):=by kernel_rfl
@[simp] theorem aOe:kindOf prog 41=.leaf:=by kernel_rfl
@[simp] theorem aMh:iX prog 41=true:=by kernel_rfl
@[simp] theorem aMN:cH prog 41=some 4:=by kernel_rfl
@[simp] theorem aM1:er prog 41=140:=by kernel_rfl
@[simp] theorem aOf:kindOf prog 42=.leaf:=by kernel_rfl
@[simp] theorem aMi:iX prog 42=true:=by kernel_rfl
@[simp] theorem aMO:cH prog 42=some 3:=by kernel_rfl
@[simp] theorem aM2:er prog 42=142:=by kernel_rfl
@[simp] theorem aOg:kindOf prog 44=.agg 43:=by kernel_rfl
@[simp] theorem aPA:fg prog 44=some (43,4):=by kernel_rfl
@[simp] theorem aQd:cz prog 44=some (.st 43 [.aP,.int .i64 (0),.aP,.aP]):=by kernel_rfl
@[simp] theorem aOh:kindOf prog 46=.leaf:=by kernel_rfl
@[simp] theorem aMj:iX prog 46=true:=by kernel_rfl
@[simp] theorem aMP:cH prog 46=some 3:=by kernel_rfl
@[simp] theorem aM3:er prog 46=117:=by kernel_rfl
@[simp] theorem aOi:kindOf prog 57=.agg 56:=by kernel_rfl
@[simp] theorem aPB:fg prog 57=some (56,2):=by kernel_rfl
@[simp] theorem aQf:cz prog 57=some (.st 56 [.str [],.st 31 [.str [],.str []]]):=by kernel_rfl
@[simp] theorem aOj:kindOf prog 62=.leaf:=by kernel_rfl
@[simp] theorem aMk:iX prog 62=true:=by kernel_rfl
@[simp] theorem aMQ:cH prog 62=some 1:=by kernel_rfl
@[simp] theorem aM4:er prog 62=3:=by kernel_rfl
@[simp] theorem aOk:kindOf prog 66=.agg 65:=by kernel_rfl
@[simp] theorem aPC:fg prog 66=some (65,4):=by kernel_rfl
@[simp] theorem aQg:cz prog 66=some (.st 65 [.st 43 [.aP,.int .i64 (0),.aP,.aP],.aP,.str [],.str []]):=by kernel_rfl
@[simp] theorem aLn:prog.underlying 68=some (.slice 9):=by kernel_rfl
@[simp] theorem aMl:iX prog 68=true:=by kernel_rfl
@[simp] theorem aMR:cH prog 68=some 1:=by kernel_rfl
@[simp] theorem aM5:er prog 68=9:=by kernel_rfl
@[simp] theorem aOm:kindOf prog 91=.agg 90:=by kernel_rfl
@[simp] theorem aPD:fg prog 91=some (90,4):=by kernel_rfl
@[simp] theorem aQi:cz prog 91=some (.st 90 [.str [],.int .i64 (0),.str [],.str []]):=by kernel_rfl
@[simp] theorem aNG:kindOf prog 117=.agg 56:=by kernel_rfl
@[simp] theorem aPk:fg prog 117=some (56,2):=by kernel_rfl
@[simp] theorem aPR:cz prog 117=some (.st 56 [.str [],.st 31 [.str [],.str []]]):=by kernel_rfl
@[simp] theorem aNH:kindOf prog 121=.agg 121:=by kernel_rfl
@[simp] theorem aMc:ir prog 121=some (121,2):=by kernel_rfl
@[simp] theorem aPS:cz prog 121=some (.st 121 [.st 31 [.str [],.str []],.st 31 [.str [],.str []]]):=by kernel_rfl
@[simp] theorem aNI:kindOf prog 122=.leaf:=by kernel_rfl
@[simp] theorem aNJ:kindOf prog 123=.leaf:=by kernel_rfl
@[simp] theorem aMD:cH prog 123=some 1:=by kernel_rfl
@[simp] theorem aMU:er prog 123=320:=by kernel_rfl
@[simp] theorem aNK:kindOf prog 125=.agg 124:=by kernel_rfl
@[simp] theorem aPl:fg prog 125=some (124,2):=by kernel_rfl
@[simp] theorem aPT:cz prog 125=some (.st 124 [.int .i64 (0),.aP]):=by kernel_rfl
@[simp] theorem aNL:kindOf prog 127=.agg 126:=by kernel_rfl
@[simp] theorem aPm:fg prog 127=some (126,2):=by kernel_rfl
@[simp] theorem aPU:cz prog 127=some (.st 126 [.st 124 [.int .i64 (0),.aP],.st 124 [.int .i64 (0),.aP]]):=by kernel_rfl
@[simp] theorem aNM:kindOf prog 129=.agg 128:=by kernel_rfl
@[simp] theorem aPn:fg prog 129=some (128,4):=by kernel_rfl
@[simp] theorem aPV:cz prog 129=some (.st 128 [.st 43 [.aP,.int .i64 (0),.aP,.aP],.aP,.fk,.st 126 [.st 124 [.int .i64 (0),.aP],.st 124 [.int .i64 (0),.aP]]]):=by kernel_rfl
@[simp] theorem aNN:kindOf prog 131=.agg 130:=by kernel_rfl
@[simp] theorem aPo:fg prog 131=some (130,2):=by kernel_rfl
@[simp] theorem aPW:cz prog 131=some (.st 130 [.st 126 [.st 124 [.int .i64 (0),.aP],.st 124 [.int .i64 (0),.aP]],.st 126 [.st 124 [.int .i64 (0),.aP],.st 124 [.int .i64 (0),.aP]]]):=by kernel_rfl
@[simp] theorem aNO:kindOf prog 140=.agg 90:=by kernel_rfl
@[simp] theorem aPp:fg prog 140=some (90,4):=by kernel_rfl
@[simp] theorem aPX:cz prog 140=some (.st 90 [.str [],.int .i64 (0),.str [],.str []]):=by kernel_rfl
@[simp] theorem aNP:kindOf prog 141=.agg 56:=by kernel_rfl
@[simp] theorem aPq:fg prog 141=some (56,2):=by kernel_rfl
@[simp] theorem aPY:cz prog 141=some (.st 56 [.str [],.st 31 [.str [],.str []]]):=by kernel_rfl
@[simp] theorem aNQ:kindOf prog 142=.agg 56:=by kernel_rfl
@[simp] theorem aPr:fg prog 142=some (56,2):=by kernel_rfl
@[simp] theorem aPZ:cz prog 142=some (.st 56 [.str [],.st 31 [.str [],.str []]]):=by kernel_rfl
@[simp] theorem aNR:kindOf prog 157=.agg 156:=by kernel_rfl
@[simp] theorem aPs:fg prog 157=some (156,2):=by kernel_rfl
@[simp] theorem aNS:kindOf prog 169=.agg 168:=by kernel_rfl
@[simp] theorem aPt:fg prog 169=some (168,3):=by kernel_rfl
@[simp] theorem aP0:cz prog 169=some (.st 168 [.int .i64 (0),.st 130 [.st 126 [.st 124 [.int .i64 (0),.aP],.st 124 [.int .i64 (0),.aP]],.st 126 [.st 124 [.int .i64 (0),.aP],.st 124 [.int .i64 (0),.aP]]],.st 130 [.st 126 [.st 124 [.int .i64 (0),.aP],.st 124 [.int .i64 (0),.aP]],.st 126 [.st 124 [.int .i64 (0),.aP],.st 124 [.int .i64 (0),.aP]]]]):=by kernel_rfl
@[simp] theorem aNT:kindOf prog 200=.leaf:=by kernel_rfl
@[simp] theorem aME:cH prog 200=some 1:=by kernel_rfl
@[simp] theorem aMV:er prog 200=30:=by kernel_rfl
@[simp] theorem aNU:kindOf prog 202=.agg 201:=by kernel_rfl
@[simp] theorem aPu:fg prog 202=some (201,2):=by kernel_rfl
@[simp] theorem aP1:cz prog 202=some (.st 201 [.int .i64 (0),.int .i64 (0)]):=by kernel_rfl
@[simp] theorem aNX:kindOf prog 236=.agg 235:=by kernel_rfl
@[simp] theorem aPv:fg prog 236=some (235,2):=by kernel_rfl
@[simp] theorem aP2:cz prog 236=some (.st 235 [.bool false,.aP]):=by kernel_rfl
@[simp] theorem aMI:cH prog 246=some 1:=by kernel_rfl
@[simp] theorem aMX:er prog 246=38:=by kernel_rfl
@[simp] theorem aN0:kindOf prog 264=.leaf:=by kernel_rfl
@[simp] theorem aP3:cz prog 264=some (.gQ):=by kernel_rfl
@[simp] theorem aMJ:cH prog 265=some 1:=by kernel_rfl
@[simp] theorem aMY:er prog 265=264:=by kernel_rfl
@[simp] theorem aN2:kindOf prog 289=.agg 288:=by kernel_rfl
@[simp] theorem aMd:ir prog 289=some (288,2):=by kernel_rfl
@[simp] theorem aP4:cz prog 289=some (.st 288 [.st 126 [.st 124 [.int .i64 (0),.aP],.st 124 [.int .i64 (0),.aP]],.st 126 [.st 124 [.int .i64 (0),.aP],.st 124 [.int .i64 (0),.aP]]]):=by kernel_rfl
@[simp] theorem aML:cH prog 318=some 2:=by kernel_rfl
@[simp] theorem aMZ:er prog 318=32:=by kernel_rfl
@[simp] theorem aN7:kindOf prog 320=.leaf:=by kernel_rfl
@[simp] theorem aP8:cz prog 320=some (.int .u64 (0)):=by kernel_rfl
@[simp] theorem aN8:kindOf prog 340=.agg 340:=by kernel_rfl
@[simp] theorem aMe:ir prog 340=some (340,2):=by kernel_rfl
@[simp] theorem aP9:cz prog 340=some (.st 340 [.st 288 [.st 126 [.st 124 [.int .i64 (0),.aP],.st 124 [.int .i64 (0),.aP]],.st 126 [.st 124 [.int .i64 (0),.aP],.st 124 [.int .i64 (0),.aP]]],.st 288 [.st 126 [.st 124 [.int .i64 (0),.aP],.st 124 [.int .i64 (0),.aP]],.st 126 [.st 124 [.int .i64 (0),.aP],.st 124 [.int .i64 (0),.aP]]]]):=by kernel_rfl
@[simp] theorem aN9:kindOf prog 352=.leaf:=by kernel_rfl
@[simp] theorem aMM:cH prog 352=some 1:=by kernel_rfl
@[simp] theorem aM0:er prog 352=5:=by kernel_rfl
@[simp] theorem aOa:kindOf prog 354=.agg 353:=by kernel_rfl
@[simp] theorem aPz:fg prog 354=some (353,2):=by kernel_rfl
@[simp] theorem aQa:cz prog 354=some (.st 353 [.dM,.aP]):=by kernel_rfl
@[simp] theorem aOd:kindOf prog 409=.agg 408:=by kernel_rfl
@[simp] theorem aMf:ir prog 409=some (408,256):=by kernel_rfl
@[simp] theorem aK0:dD prog 25=some [1,1,1,1]:=by kernel_rfl
@[simp] theorem aK1:dD prog 28=some [4,1,1,1]:=by kernel_rfl
@[simp] theorem aK2:dD prog 31=some [1,1]:=by kernel_rfl
@[simp] theorem aPO:dD prog 43=some [1,1,1,1]:=by kernel_rfl
@[simp] theorem SB:dD prog 56=some [1,2]:=by kernel_rfl
@[simp] theorem aPP:dD prog 65=some [4,1,1,1]:=by kernel_rfl
@[simp] theorem aK3:dD prog 90=some [1,1,1,1]:=by kernel_rfl
@[simp] theorem aPE:dD prog 121=some [2,2]:=by kernel_rfl
@[simp] theorem aPF:dD prog 124=some [1,1]:=by kernel_rfl
@[simp] theorem aPG:dD prog 126=some [2,2]:=by kernel_rfl
@[simp] theorem aPH:dD prog 128=some [4,1,1,4]:=by kernel_rfl
@[simp] theorem aPI:dD prog 130=some [4,4]:=by kernel_rfl
@[simp] theorem aPJ:dD prog 156=some [10,7]:=by kernel_rfl
@[simp] theorem aPK:dD prog 168=some [1,8,8]:=by kernel_rfl
@[simp] theorem aKZ:dD prog 201=some [1,1]:=by kernel_rfl
@[simp] theorem aPL:dD prog 235=some [1,1]:=by kernel_rfl
@[simp] theorem aPM:dD prog 288=some [4,4]:=by kernel_rfl
@[simp] theorem aPN:dD prog 340=some [8,8]:=by kernel_rfl
set_option maxRecDepth 100000
section
variable{H:Type}{w:a2}{ad:Nat->Prop}
theorem Bq{P:aT}:∀{l:List Nat}{d:List PV}{b:List (List av)},bm P w ad l d b->∀e∈d,∃c,aW P w ad e c
 |_,[],_,_=>fun e a=>by cases a
 |[],v::vs,_,h=>by simp[bm]at h
 |n::i,v::vs,b,h=>by
  simp only[bm]at h;obtain⟨c,cs,_,f,_,g⟩:=h;intro e a;rcases b3.1 a with rfl|a
  ·exact⟨c,f⟩
  ·exact Bq g e a
theorem xV{n:Nat}(d:ay H)(c)(h:aW prog w ad (bu prog (n+1) 3 d) c):∃z:Int,bu prog (n+1) 3 d=.int .i64 z:=by
 cases d with
 |lit l=>
  cases l with
  |int k z=>
   simp only[bu,Fz]at h⊢
   split at h
   ·rename_i a;rw[if_pos a];exact⟨_,rfl⟩
   ·simp only[aW]at h
  |_=>simp only[bu,Fz,aW]at h
 |_=>simp only[bu,Fz,aW]at h
end
theorem Jl{P:aT}{W:a2}{name:String}{d:ay Unit}:∀{l:List (String×ay Unit)}{b:List ap},DataW.LaidVars P W l b->(name,d)∈l->
 ∃g t cs a p,P.globalNamed name=some g/\(P.globals[g]?).map (·.type)=some t/\W.var? P name=some cs/\a4 (fun _=>()) P W 0 (fun _=>true) false a t cs.toList=some (d,p)/\∀x∈MemPlace.row ⟨g,0,none⟩ cs.size,x∈b
 |[],_,_,h=>by cases h
 |(n,d0)::r,b,h,hm=>by
  obtain⟨g,t,cs,a,p,q,j,k,m,o,s,rfl⟩:=h;rcases b3.1 hm with e|hm
  ·cases e;exact⟨g,t,cs,a,p,j,k,m,o,fun x hx=>by simp[hx]⟩
  ·obtain⟨i,v,c,f,u,k1,k2,k3,k4,k5⟩:=Jl s hm;exact⟨i,v,c,f,u,k1,k2,k3,k4,fun x hx=>by simp[k5 x hx]⟩
open Go.Proofs Go.Proofs.YthmfmhbicipdmaaGreatDoor
theorem Le:prog.globalNamed "internal/strconv.uint64pow10" =some 3:=by kernel_rfl
theorem V0:((Rows.aimHidesUptoRow.laid).filter fun x=>x.2.handleName?.isSome)=[]:=by kernel_rfl
theorem aKf:(prog.globals[3]?).map (·.type)=some 415:=by kernel_rfl
theorem aKg:prog.underlying 415=some (.array 20 320):=by kernel_rfl
theorem aKd:prog.underlying 320=some (.int .u64):=by kernel_rfl
theorem aKb:prog.cellsOf 320=1:=by kernel_rfl
theorem aKc:prog.cellsOf 415=20:=by kernel_rfl
theorem FM{W:a2}(h:laidMetH prog Rows.aimHidesUptoRow.laid W):nr prog W (fun k=>k<W.heap.size):=by
 unfold laidMetH at h;rw[V0]at h;obtain⟨n,j,_,l⟩:=h;obtain⟨g,t,cs,fuel,p,k1,k2,k3,k4,k5⟩:=Jl (name:= "internal/strconv.uint64pow10") (d:=Lib.tabData .u64 Lib.pow10Tab) j (by
  show _∈[_,_,_,_,_,_,_];exact bl _ (bl _ bo))
 rw[Le]at k1;cases k1;rw[aKf]at k2;cases k2;have f:=Lib.cells_of_tab aKg aKd aKb aKc k4;have e:cs=Fw:=by rw[Fw,<-f]
 have i:0<cs.size:=by rw[e];decide
 obtain⟨⟨c,T,b⟩,_⟩:=l 3 0 (k5 _ (by simp[MemPlace.row];exact i));refine⟨fun g=>by simp[aF,Gl.g],fun g m a=>?_⟩
 match g,a with
 |3,a=>
  cases a;refine⟨(am.1 b).1,T,?_⟩;simp only[World.var?,Le,Option.bind_some,b,Option.some.injEq]at k3;rw[b,k3,e]
section
variable[Gl]{P:aT}
theorem ZL{f:FuncId}{args:List PV}{v:PV}(g:Enters P f)(h:ar P f args v){w:a2}{ad:Nat->Prop}{a:List av}(d:∀k,ad k->k<w.heap.size)(i:nr P w ad)(c:bL P w ad args a):
 Calls P f a.toArray w fun e w'=>∃b,∃aH:Nat->Prop,e=.returned b/\w.heap.size<=w'.heap.size/\(∀k,k<w.heap.size->w'.heap[k]?=w.heap[k]?)/\(w'.os=w.os/\w'.output=w.output)/\aF P w' aH v b:=by
 rcases h with h|h
 ·refine(h.2 w ad a d i c).mono ?_;rintro e w' ⟨b,aH,k1,_,_,_,k5,k6,j,k7⟩;exact⟨b,aH,k1,k5,k6,j,k7⟩
 ·obtain⟨b,k1,_⟩:=h w ad a c;rw[g a.toArray w]at k1;cases k1
theorem aJk{w w':a2}(h:∀k,k<w.heap.size->w'.heap[k]?=w.heap[k]?)(a:w'.os=w.os/\w'.output=w.output)(b:ap->Prop):w.keptBut w' b:=by
 refine⟨a.1,a.2,fun i hi=>?_⟩;rw[h i hi];cases w.heap[i]? with
 |none=>rfl
 |some o=>cases o<;>first|exact⟨rfl,rfl,rfl,fun _ _=>rfl⟩|exact .inr ⟨rfl,rfl⟩|rfl
theorem aKB{w w':a2}(h:∀k,k<w.heap.size->w'.heap[k]?=w.heap[k]?){p:ap}(a:p.block<w.heap.size):w.sameAt w' p:=by
 cases p with
 |cell b o=>simp only[be,bb];rw[h b a]
 |map b=>simp only[be];rw[h b a]
theorem Wn{H:Type}{e:ax×av->H}{f:Func}{s:a3}{apart fresh handsOn:Bool}{W c:a2}{args:Array av}{v:av}{d g:List (ay H)}{a pa pv:List ap}
 (j:a6 e P f.params.toList s.vars apart W args.toList d g a)
 (o:∀(b:Nat)(sp:Nat->Bool)(m:Bool),a5 e P c b sp m f.resultTypes.toList (v.resultList f.resultTypes.size) (s.fn H (d++g)).results [])
 (l:∀sp:Nat->Bool,(∀p∈a,sp p.block=true)->a5 e P c 0 sp true f.params.toList args.toList (s.fn H (d++g)).args pa)
 (q:∀sp:Nat->Bool,(∀p∈a,sp p.block=true)->DataW.TrodVars e P c sp s.vars (s.fn H (d++g)).vars pv)
 (n:a=pa++pv)(hk:W.keptBut c (·∈a)):s.post e P f apart fresh handsOn false W args v c:=by
 have k:∀p∈a,(fun b=>decide (b<W.heap.size)) p.block=true:=fun p i=>by simpa using j.lt p i
 refine⟨d,g,a,[],pa,pv,j,o _ _ _,l _ k,q _ k,World.keptBut_mono (fun p i=>⟨i,?_⟩) hk,fun h=>by cases h⟩;rw[n,List.mem_append]at i;exact Or.inr i
end
section
variable{H:Type}{enc:ax×av->H}{P:aT}{w:a2}
theorem Yp{n:Nat}{t:ax}{d:ay H}{cs:List av}{ad:Nat->Prop}(h:aW P w ad (bu P n t d) cs):
 (((∃fs,P.underlying t=some (.struct fs))\/∃m e,P.underlying t=some (.array m e))/\∃u,aL (bu P n t d)=.agg u)\/((P.underlying t=some .bool\/(∃k,P.underlying t=some (.int k))\/P.underlying t=some .string\/∃e,P.underlying t=some (.slice e))/\aL (bu P n t d)=.leaf):=by
 cases n with
 |zero=>simp only[bu,aW]at h
 |succ n=>
  unfold bu at h⊢
  split at h
  ·rename_i a;exact .inr ⟨.inl a,rfl⟩
  ·rename_i k z a
   split at h
   ·rename_i b;rw[if_pos b];exact .inr ⟨.inr (.inl ⟨_,a⟩),rfl⟩
   ·simp only[aW]at h
  ·rename_i a;exact .inr ⟨.inr (.inr (.inl a)),rfl⟩
  ·rename_i a;exact .inr ⟨.inr (.inr (.inr ⟨_,a⟩)),rfl⟩
  ·rename_i a;exact .inr ⟨.inr (.inr (.inr ⟨_,a⟩)),rfl⟩
  ·rename_i a;exact .inl ⟨.inl ⟨_,a⟩,_,rfl⟩
  ·rename_i a;exact .inl ⟨.inr ⟨_,_,a⟩,_,rfl⟩
  ·simp only[aW]at h
theorem Yn[Gl]{n:Nat}{t:ax}{v:av}{d:ay H}{f:List ap}{g i:Nat}{r:Reach}(j:lU P n t=true)(h:DataW.Trod enc P w g (fun _=>true) true t v d f)(b:a7 P w r i t v):
 aF P w (fun k=>k<w.heap.size) (bu P n t d) v:=by
 obtain⟨fuel,h⟩:=h;have hc:=vW n fuel t _ d f j h;rcases Yp hc with⟨a,u,hs⟩|⟨a,hs⟩
 ·have:∃cs,v=.agg cs:=by
   rcases a with⟨fs,a⟩|⟨m,e,a⟩
   ·simp only[a7,a]at b;obtain⟨cs,rfl,_,_⟩:=b;exact⟨cs,rfl⟩
   ·simp only[a7,a]at b;obtain⟨cs,rfl,_,_⟩:=b;exact⟨cs,rfl⟩
  obtain⟨cs,rfl⟩:=this;rw[wx hs]at hc;simpa[a8]using hc
 ·rw[tL hs]at hc;obtain⟨c,hc,l⟩:=hc;have:v=c:=by
   cases v with
   |agg cs=>rcases a with a|⟨k,a⟩|a|⟨e,a⟩<;>simp[a7,a,Cell.okWide,Cell.ok]at b
   |_=>simpa[a8]using hc
  rw[this];exact l
def oR(P:aT)(n:Nat):List ax->List (ay H)->List PV
 |t::ts,d::ds=>bu P n t d::oR P n ts ds
 |_,_=>[]
theorem zl[Gl]{n:Nat}{base:Nat}{r:Reach}:∀{ts:List ax}{vs:List av}{ds:List (ay H)}{h:List ap},(∀t∈ts,lU P n t=true)->a5 enc P w 0 (fun _=>true) true ts vs ds h->
 (∀(j:Nat) t v,ts[j]?=some t->vs[j]?=some v->a7 P w r base t v)->bL P w (fun k=>k<w.heap.size) (oR P n ts ds) vs/\ds.length=ts.length
 |[],[],[],_,_,_,_=>by simp[oR,bL]
 |t::ts,v::vs,d::ds,_,b,⟨p,q,e,f,_⟩,c=>by
  have⟨i1,i2⟩:=zl (ts:=ts) (vs:=vs) (ds:=ds) (fun t a=>b t (bl _ a)) f (fun j t v a g=>c (j+1) t v (by simpa using a) (by simpa using g));refine⟨?_,by simp[i2]⟩;simp only[oR,bL];exact⟨v,vs,rfl,Yn (b t bo) e (c 0 t v rfl rfl),i1⟩
theorem LV{n:Nat}:∀{ts:List ax}{vs:List av}{ds:List (ay H)}{g:List ap},(∀t∈ts,lU P n t=true)->a5 enc P w 0 (fun _=>true) true ts vs ds g->
 ∀p∈ts.zip ds,∃cs,aW P w (fun k=>k<w.heap.size) (bu P n p.1 p.2) cs
 |[],[],[],_,_,_=>by simp
 |t::ts,v::vs,d::ds,_,a,⟨p,q,⟨fuel,b⟩,c,_⟩=>by
  have f:=LV (ts:=ts) (vs:=vs) (ds:=ds) (fun t e=>a t (bl _ e)) c;intro x hx;rw[b5]at hx;rcases b3.1 hx with rfl|hx
  ·exact⟨_,vW n fuel t _ d p (a t bo) b⟩
  ·exact f x hx
theorem Jf{w':a2}{f:Nat}{g:Nat->Bool}{held:Bool}:∀{c:List ax}{vs:List av}{a:List (ay H)}{b:List ap},a5 enc P w f g held c vs a b->(∀p∈b,w.sameAt w' p)->
 a5 enc P w' f g held c vs a b
 |[],[],[],_,h,_=>h
 |t::c,v::vs,d::a,_,⟨p,q,⟨n,i⟩,j,e⟩,hs=>by
  subst e;exact⟨p,q,⟨n,DataW.trod_carry n _ _ _ i fun x hx=>hs x (List.mem_append_left _ hx)⟩,Jf j fun x hx=>hs x (List.mem_append_right _ hx),rfl⟩
theorem KD[Gl]{f:FuncId}{fn:Func}{s:a3}{n:Nat}{T:ax->Prop}(u:s.vars=[])(D:∀(H:Type)(a:List (ay H)),a.length=fn.params.size->(s.fn H a).results=[.lit (.bool true)]/\(s.fn H a).args=a/\(s.fn H a).vars=[])
 (K:Kids P T)(O:∀t e,T t->P.underlying t=some (.slice e)->0<P.cellsOf e)(z:∀t∈fn.params.toList,T t)(r:∀t∈fn.params.toList,lU P n t=true){tb:ax}(J:fn.resultTypes=#[tb])(B:P.underlying tb=some .bool)
 (C:Enters P f){W:a2}{args:Array av}{a c:List (ay H)}{y:List ap}{w:Nat}(E:nr P W (fun k=>k<W.heap.size))
 (F:(∀p∈fn.params.toList.zip a,∃cs,aW P W (fun k=>k<W.heap.size) (bu P n p.1 p.2) cs)->ar P f (oR P n fn.params.toList a) (.bool true))
 (N:∀(j:Nat) t v,fn.params[j]?=some t->args[j]?=some v->a7 P W .any w t v)
 (o:a6 enc P fn.params.toList s.vars false W args.toList a c y):
 Calls P f args W fun e l=>∃v,e=.returned v/\s.post enc P fn false true false false W args v l:=by
 have A:=o;obtain⟨p,q,d,h,rfl,R,S⟩:=o;rw[u]at h;have⟨i,hlen⟩:=zl r d (fun j t v L M=>N j t v (by simpa using L) (by simpa using M));have G:c=[]/\q=[]:=by
  cases c with
  |nil=>exact⟨rfl,h⟩
  |cons g c=>exact h.elim
 obtain⟨rfl,rfl⟩:=G;have hc:=ZL C (F (LV r d)) (fun k hk=>hk) E i;refine hc.mono ?_;rintro e l ⟨m,aH,rfl,k1,k2,k3,k4⟩;refine⟨m,rfl,?_⟩;obtain⟨f1,f2,f3⟩:=D H (a++[]) (by simpa using hlen);have e1:m=.bool true:=by simpa[aF]using k4
 have I:=DataW.TrodAll.lt d;refine Wn (pa:=p) (pv:=[]) A ?_ ?_ ?_ rfl (aJk k2 k3 _)
 ·intro b sp Q;rw[f1,J,e1];refine⟨[],[],⟨1,?_⟩,rfl,rfl⟩;simp[a4,B,a8]
 ·intro sp hs;rw[f2];simp only[List.append_nil]at hs⊢;exact Jf (DataW.TrodAll.respare K O z d fun p i=>hs p i) fun x hx=>aKB k2 (I x hx)
 ·intro sp hs;rw[f3,u];rfl
end
end Go.ah
