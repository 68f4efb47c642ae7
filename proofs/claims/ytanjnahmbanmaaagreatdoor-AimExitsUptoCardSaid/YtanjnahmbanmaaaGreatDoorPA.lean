import Derived.Test.YtanjnahmbanmaaaGreatDoorThE
import Derived.Deep.Slices
import Derived.Test.YtanjnahmbanmaaaGreatDoorProg
import Derived.KernelRfl
import Derived.Lib.ItoaNum
import Derived.Test.YtanjnahmbanmaaaGreatDoorRows
import Derived.Lib.LaidTab
import Derived.ReadAgain
import Derived.ChangeOld
import Derived.RowKit3
import Derived.ChangeSame
import Derived.WideShapes
/- Parts of a proof. -/
set_option linter.unusedSimpArgs false
set_option linter.unusedVariables false
set_option linter.unusedSectionVars false
open Go.Proofs.Tryz
open Array renaming getElem?_eq_some_iff->am
open Bool renaming and_eq_true->ao
open Go renaming MemPlace->ap, Value->av, TypeId->ax, DataW->ay, Program->aT, World->a0, ChangeSpec->a1
open Go.DataW renaming trod->a2, TrodAll->a3, Whole->a4
open Go.Value renaming okWide->a5, cells->a6
open Go.World renaming cells?_some->a7, cell?->a8, sameAt->a9
open List renaming getElem?_eq_getElem->bb, mem_cons_of_mem->bd, mem_cons_self->be, range->bi, flatten_append->bl, map_cons->bo, range_succ->bp, map_append->bv, mem_cons->b0, take_of_length_le->b1, zip_cons_cons->b2, replicate->b3, mem_range->b4, take_add->b5, sum_cons->cb
open Nat renaming succ_mul->cc
namespace Go.az
open Go.Deep
section
variable{H:Type}
def bH(P:aT):Nat->ax->ay H->PV
 |0,_,_=>.undef
 |n+1,t,d=>match P.underlying t,d with
  |some .bool,.lit (.bool b)=>.bool b
  |some (.int k),.lit (.int _ z)=>if(Lit.int k z).wf=true then .int k z else .undef
  |some .string,.lit (.string s)=>.str (s.map (·.toNat))
  |some (.slice e),.slice ds _=>.seq (ds.map (bH P n e))
  |some (.slice _),.nil=>.seq []
  |some (.struct fs),.agg ds=>.st (P.underlyingId t) ((fs.toList.zip ds).map fun p=>bH P n p.1.type p.2)
  |some (.array _ e),.agg ds=>.st (P.underlyingId t) (ds.map (bH P n e))
  |_,_=>.undef
def yc(P:aT):Nat->List Field->Bool
 |_,[]=>true
 |o,f::fs=>(f.offset==o)&&yc P (o+P.cellsOf f.type) fs
def kP(P:aT):Nat->ax->Bool
 |0,_=>false
 |n+1,t=>match P.underlying t with
  |some .bool|some (.int _)|some .string=>true
  |some (.slice e)=>kP P n e&&decide (0<P.cellsOf e)
  |some (.struct fs)=>(du P (P.underlyingId t)==some (fs.toList.map fun f=>P.cellsOf f.type))&&yc P 0 fs.toList&&(((fs.toList.map fun f=>P.cellsOf f.type).sum)==P.cellsOf t)&&fs.toList.all fun f=>kP P n f.type
  |some (.array m e)=>(du P (P.underlyingId t)==some (b3 m (P.cellsOf e)))&&(m*P.cellsOf e==P.cellsOf t)&&kP P n e
  |_=>false
variable{enc:ax×av->H}{P:aT}{w:a0}{base:Nat}{held:Bool}
theorem KI{n k:Nat}{aa:Nat->Prop}(l:∀t cs d u,kP P n t=true->a2 enc P w base (fun _=>true) held k t cs=some (d,u)->aV P w aa (bH P n t d) cs):
 ∀(fs:List Field)(a:List (ay H×List ap))(o:Nat)(cs:List av),yc P o fs=true->a.length=fs.length->(∀f∈fs,kP P n f.type=true)->o+(fs.map fun f=>P.cellsOf f.type).sum<=cs.length->
  (∀(i:Nat)(f:Field),fs[i]?=some f->a2 enc P w base (fun _=>true) held k f.type ((cs.drop f.offset).take (P.cellsOf f.type))=a[i]?)->
  bg P w aa (fs.map fun f=>P.cellsOf f.type) ((fs.zip (a.map (·.1))).map fun p=>bH P n p.1.type p.2) (fs.map fun f=>(cs.drop f.offset).take (P.cellsOf f.type))/\
   (fs.map fun f=>(cs.drop f.offset).take (P.cellsOf f.type)).flatten=(cs.drop o).take (fs.map fun f=>P.cellsOf f.type).sum
 |[],a,o,cs,_,b,_,_,_=>by
  have:a=[]:=by simpa using b
  subst this;simp[bg]
 |f::fs,[],o,cs,_,b,_,_,_=>by simp at b
 |f::fs,x::a,o,cs,c,b,h,hlen,hx=>by
  simp only[yc,ao,beq_iff_eq]at c;obtain⟨c,s⟩:=c;simp only[bo,cb]at hlen;have j:=hx 0 f rfl;simp only[List.getElem?_cons_zero]at j;have m:=l _ _ x.1 x.2 (h f be) j;have⟨q,r⟩:=KI l fs a (o+P.cellsOf f.type) cs s (by simpa using b) (fun g e=>h g (bd _ e)) (by omega) (fun i g e=>by have:=hx (i+1) g (by simpa using e);simpa using this);refine⟨?_,?_⟩
  ·simp only[bo,b2,bg];exact⟨_,_,rfl,m,by simp[c];omega,q⟩
  ·simp only[bo,List.flatten_cons,cb,r,c];rw[<-List.drop_drop,b5]
theorem Aq{ai len:Nat}{aa:Nat->Prop}{f:Nat->PV}{g:Nat->List av}:∀{l:List Nat},(∀i∈l,aV P w aa (f i) (g i)/\(g i).length=ai)->bg P w aa (b3 l.length ai) (l.map f) (l.map g)
 |[],_=>by simp[bg]
 |a::l,h=>by
  simp only[List.length_cons,List.replicate_succ,bo,bg];exact⟨_,_,rfl,(h a be).1,(h a be).2,Aq (len:=len) fun i hi=>h i (bd _ hi)⟩
theorem trod_array{m:Nat}{e t:ax}{b:Nat}{cs:List av}{x:ay H×List ap}{d:Nat->Bool}(g:P.underlying t=some (.array m e))(h:a2 enc P w base d held b t cs=some x):
 ∃(a:List (ay H×List ap))(n:Nat),b=n+1/\x=(.agg (a.map (·.1)),a.flatMap (·.2))/\cs.length=P.cellsOf t/\a.length=m/\
  ∀i,i<m->a2 enc P w base d held n e ((cs.drop (i*P.cellsOf e)).take (P.cellsOf e))=a[i]?:=by
 cases b with
 |zero=>simp[a2]at h
 |succ n=>
  unfold a2 at h;rw[g]at h
  split at h<;>simp_all
  obtain⟨j,a,c,f⟩:=h;exact⟨a,f.symm,by simpa using mapM_some_length c,fun i hi=>mapM_some_get c i i (by simp[hi])⟩
theorem FG{α:Type}{cs:List α}{ai:Nat}:∀m,((bi m).map fun i=>(cs.drop (i*ai)).take ai).flatten=cs.take (m*ai)
 |0=>by simp
 |m+1=>by
  rw[bp,bv,bl,FG m,cc,b5];simp
theorem BC{V:Nat->List av}{ai:Nat}:∀(len:Nat),(∀i,i<len->(V i).length=ai)->((bi len).map V).flatten.length=len*ai
 |0,_=>by simp
 |len+1,h=>by
  rw[bp,bv,bl,List.length_append,BC len fun i hi=>h i (by omega),cc];simp[h len (by omega)]
theorem Gf{V:Nat->List av}{ai b o:Nat}:∀(len:Nat),(∀i,i<len->(V i).length=ai)->(∀i,i<len->∀j,j<ai->w.cell? ⟨b,o+(i*ai+j),none⟩=(V i)[j]?)->gB w b o ((bi len).map V).flatten
 |0,_,_=>by intro i hi;simp at hi
 |len+1,h,hc=>by
  intro i hi;have a:=BC (V:=V) (ai:=ai) len fun i hi=>h i (by omega);have c:=Gf (V:=V) (ai:=ai) (b:=b) (o:=o) len (fun i hi=>h i (by omega)) (fun i hi=>hc i (by omega));have e:((bi (len+1)).map V).flatten=((bi len).map V).flatten++V len:=by
   rw[bp,bv,bl];simp
  have f:i<len*ai+ai:=by
   have:=BC (V:=V) (ai:=ai) (len+1) h;rw[cc]at this;omega
  rw[<-bb hi,e]
  by_cases d:i<len*ai
  ·rw[List.getElem?_append_left (by omega),bb (by omega)];exact c i (by omega)
  ·rw[List.getElem?_append_right (by omega),a];have:=hc len (by omega) (i-len*ai) (by omega);rw[<-this];congr 3;omega
theorem uk:∀(n:Nat)(J:Nat)(t:ax)(cs:List av)(d:ay H)(r:List ap),kP P n t=true->a2 enc P w base (fun _=>true) held J t cs=some (d,r)->
 aV P w (fun k=>k<w.heap.size) (bH P n t d) cs
 |0,_,_,_,_,_,h,_=>by simp[kP]at h
 |n+1,J,t,cs,d,r,h,p=>by
  simp only[kP]at h
  split at h
  ·rename_i o;obtain⟨b,rfl,hx⟩:=DataW.trod_bool o p;cases hx;simp[bH,o,aV]
  ·rename_i k o;obtain⟨z,rfl,hx,E⟩:=DataW.trod_int o p;cases hx;simp[bH,o,E,aV]
  ·rename_i o;obtain⟨s,rfl,hx,_⟩:=DataW.trod_string o p;cases hx;simp[bH,o,aV]
  ·rename_i e o;simp only[ao,decide_eq_true_eq]at h;obtain⟨v,B⟩:=h;rcases open_slice o p with⟨rfl,hx⟩|⟨a,len,cap,m,k,D,S,rfl,ad,Y,af,O,hx,U⟩
   ·cases hx;simp[bH,o,aV]
   cases hx;simp only[if_true]at O;subst O;obtain⟨V,q⟩:=choose_lt U;have R:a.spot=none\/m=0:=by
    by_cases E:m=0
    ·exact .inr E
    left;obtain⟨c1,_⟩:=q 0 (by omega);obtain⟨_,c2,c3⟩:=a7 c1;have c4:=c3 0 B;rw[bb (by omega)]at c4;simp only[Addr.add,Nat.zero_mul,if_true]at c4;unfold a8 at c4
    split at c4
    ·split at c4
     ·cases c4
     ·rename_i hs;simpa using hs
    ·cases c4
   have M:∀i,i<m->∀j,j<P.cellsOf e->w.cell? ⟨a.block,a.off+(i*P.cellsOf e+j),none⟩=(V i)[j]?:=by
    intro i hi j X;have hs:a.spot=none:=R.resolve_right (by omega);obtain⟨_,_,c3⟩:=a7 (q i hi).1;have:=c3 j X;rw[add_add]at this;rw[<-this];obtain⟨F,G,I⟩:=a;simp only at hs;subst hs;unfold Addr.add;split<;>simp_all
   have A:∀i,i<m->(V i).length=P.cellsOf e:=fun i hi=>(a7 (q i hi).1).2.1;simp only[bH,o,aV];right;obtain⟨F,G,I⟩:=a;refine⟨F,G,m,P.cellsOf e,(bi len).map V,?_,?_,?_,by simpa using Y,I,R,by simp⟩
   ·have:=Aq (P:=P) (w:=w) (len:=len) (ai:=P.cellsOf e) (aa:=fun k=>k<w.heap.size) (f:=fun i=>bH P n e (D i)) (g:=V) (l:=bi len) (fun i hi=>by
     have hi:i<m:=by have:=b4.1 hi;omega
     exact⟨uk n k e (V i) (D i) (S i) v (q i hi).2,A i hi⟩)
    simpa[Function.comp_def]using this
   ·intro Z;have ac:0<len:=by
     rcases Nat.eq_zero_or_pos len with h|h
     ·subst h;simp at Z
     ·exact h
    have c:=M 0 (by omega) 0 B;rw[bb (by rw[A 0 (by omega)];exact B)]at c;unfold a8 at c
    split at c
    ·rename_i y;exact(am.1 y).1
    ·cases c
   ·exact Gf len (fun i hi=>A i (by omega)) (fun i hi=>M i (by omega))
  ·rename_i fs o;simp only[ao,beq_iff_eq,List.all_eq_true]at h;obtain⟨⟨⟨u,K⟩,L⟩,T⟩:=h;obtain⟨xs,k,rfl,hx,hlen,C,hf⟩:=DataW.trod_struct o p;cases hx;have⟨g1,g2⟩:=KI (aa:=fun k=>k<w.heap.size) (fun t cs d r ab y=>uk n k t cs d r ab y) fs.toList xs 0 cs K (by simpa using C) T (by omega) (fun i f hi=>hf i f (by simpa using hi));simp only[bH,o,aV];refine⟨_,_,u,g1,?_⟩;rw[g2,List.drop_zero,b1 (by omega)]
  ·rename_i m e o;simp only[ao,beq_iff_eq]at h;obtain⟨⟨u,K⟩,L⟩:=h;obtain⟨xs,k,rfl,hx,hlen,C,hf⟩:=trod_array o p;cases hx;have Q:=Aq (P:=P) (w:=w) (len:=m) (ai:=P.cellsOf e) (aa:=fun k=>k<w.heap.size) (f:=fun i=>match xs[i]? with
    |some x=>bH P n e x.1
    |none=>.undef) (g:=fun i=>(cs.drop (i*P.cellsOf e)).take (P.cellsOf e)) (l:=bi m) (fun i hi=>by
     have hi:i<m:=b4.1 hi;have N:=hf i hi;rw[bb (by omega)]at N⊢;refine⟨uk n k e _ xs[i].1 xs[i].2 L N,?_⟩;have:(i+1)*P.cellsOf e<=m*P.cellsOf e:=Nat.mul_le_mul_right _ hi;rw[cc]at this;simp;omega)
   have v:((bi m).map fun i=>match xs[i]? with
    |some x=>bH P n e x.1
    |none=>.undef)=(xs.map (·.1)).map (bH P n e):=by
    apply List.ext_getElem
    ·simp[C]
    ·intro i W ae;simp at W;simp[bb (show i<xs.length by omega)]
   rw[v,List.length_range]at Q;simp only[bH,o,aV];refine⟨_,_,u,Q,?_⟩;rw[FG,b1 (by omega)]
  ·cases h
end
open Go.Proofs
def Dp:Array av:=(Lib.pow10Tab.map fun z=>Value.int .u64 z).toArray
def aFW:Nat->Option (Array av)
 |3=>some Dp
 |_=>none
instance Yl:Gl:=⟨fun _=>.undef,5,aFW,fun u=>bif Nat.beq u 359 then some 360 else none⟩
@[simp] theorem ki3:kindOf prog 3=.leaf:=by kernel_rfl
@[simp] theorem Dt:prog.underlying 3=some (.int .i64):=by kernel_rfl
@[simp] theorem tz3:ch prog 3=some (.int .i64 (0)):=by kernel_rfl
@[simp] theorem ki4:kindOf prog 4=.leaf:=by kernel_rfl
@[simp] theorem ib4:pU prog 4=true:=by kernel_rfl
@[simp] theorem tz4:ch prog 4=some (.bool false):=by kernel_rfl
@[simp] theorem tz5:ch prog 5=some (.int .u8 (0)):=by kernel_rfl
@[simp] theorem ki9:kindOf prog 9=.leaf:=by kernel_rfl
@[simp] theorem Du:prog.underlying 9=some .string:=by kernel_rfl
@[simp] theorem at9:iA prog 9=true:=by kernel_rfl
@[simp] theorem tz9:ch prog 9=some (.str []):=by kernel_rfl
@[simp] theorem aJa:kindOf prog 22=.leaf:=by kernel_rfl
@[simp] theorem Ds:prog.underlying 22=some .string:=by kernel_rfl
@[simp] theorem aKV:ch prog 22=some (.str []):=by kernel_rfl
@[simp] theorem aJc:kindOf prog 24=.agg 23:=by kernel_rfl
@[simp] theorem aKv:fw prog 24=some (23,2):=by kernel_rfl
@[simp] theorem aKX:ch prog 24=some (.st 23 [.str [],.str []]):=by kernel_rfl
@[simp] theorem aJf:kindOf prog 28=.leaf:=by kernel_rfl
@[simp] theorem aK0:ch prog 28=some (.int .i64 (0)):=by kernel_rfl
@[simp] theorem aJn:kindOf prog 44=.leaf:=by kernel_rfl
@[simp] theorem aGO:prog.underlying 44=some (.slice 179):=by kernel_rfl
@[simp] theorem aHH:iA prog 44=true:=by kernel_rfl
@[simp] theorem aH9:cz prog 44=some 2:=by kernel_rfl
@[simp] theorem aIo:ey prog 44=179:=by kernel_rfl
@[simp] theorem aJo:kindOf prog 45=.leaf:=by kernel_rfl
@[simp] theorem aGP:prog.underlying 45=some (.slice 161):=by kernel_rfl
@[simp] theorem aIa:cz prog 45=some 4:=by kernel_rfl
@[simp] theorem aJp:kindOf prog 46=.leaf:=by kernel_rfl
@[simp] theorem aGQ:prog.underlying 46=some (.slice 163):=by kernel_rfl
@[simp] theorem aIb:cz prog 46=some 3:=by kernel_rfl
@[simp] theorem aJq:kindOf prog 48=.agg 47:=by kernel_rfl
@[simp] theorem aKx:fw prog 48=some (47,4):=by kernel_rfl
@[simp] theorem aJr:kindOf prog 52=.leaf:=by kernel_rfl
@[simp] theorem aHI:iA prog 52=true:=by kernel_rfl
@[simp] theorem aIc:cz prog 52=some 4:=by kernel_rfl
@[simp] theorem aIp:ey prog 52=175:=by kernel_rfl
@[simp] theorem aJs:kindOf prog 53=.leaf:=by kernel_rfl
@[simp] theorem aHJ:iA prog 53=true:=by kernel_rfl
@[simp] theorem aId:cz prog 53=some 3:=by kernel_rfl
@[simp] theorem aIq:ey prog 53=176:=by kernel_rfl
@[simp] theorem aJt:kindOf prog 55=.agg 54:=by kernel_rfl
@[simp] theorem aKy:fw prog 55=some (54,4):=by kernel_rfl
@[simp] theorem aK7:ch prog 55=some (.st 54 [.aL,.int .i64 (0),.aL,.aL]):=by kernel_rfl
@[simp] theorem aJu:kindOf prog 83=.leaf:=by kernel_rfl
@[simp] theorem aHK:iA prog 83=true:=by kernel_rfl
@[simp] theorem aIe:cz prog 83=some 1:=by kernel_rfl
@[simp] theorem aIr:ey prog 83=3:=by kernel_rfl
@[simp] theorem aHF:iA prog 119=true:=by kernel_rfl
@[simp] theorem aH2:cz prog 119=some 1:=by kernel_rfl
@[simp] theorem aIh:ey prog 119=9:=by kernel_rfl
@[simp] theorem aIW:kindOf prog 127=.leaf:=by kernel_rfl
@[simp] theorem aH3:cz prog 127=some 1:=by kernel_rfl
@[simp] theorem aIi:ey prog 127=309:=by kernel_rfl
@[simp] theorem aIX:kindOf prog 129=.agg 128:=by kernel_rfl
@[simp] theorem aKi:fw prog 129=some (128,2):=by kernel_rfl
@[simp] theorem aKK:ch prog 129=some (.st 128 [.int .i64 (0),.aL]):=by kernel_rfl
@[simp] theorem aIY:kindOf prog 131=.agg 130:=by kernel_rfl
@[simp] theorem aKj:fw prog 131=some (130,2):=by kernel_rfl
@[simp] theorem aKL:ch prog 131=some (.st 130 [.st 128 [.int .i64 (0),.aL],.st 128 [.int .i64 (0),.aL]]):=by kernel_rfl
@[simp] theorem aIZ:kindOf prog 133=.agg 132:=by kernel_rfl
@[simp] theorem aKk:fw prog 133=some (132,2):=by kernel_rfl
@[simp] theorem aKM:ch prog 133=some (.st 132 [.st 130 [.st 128 [.int .i64 (0),.aL],.st 128 [.int .i64 (0),.aL]],.st 130 [.st 128 [.int .i64 (0),.aL],.st 128 [.int .i64 (0),.aL]]]):=by kernel_rfl
@[simp] theorem aI0:kindOf prog 150=.agg 149:=by kernel_rfl
@[simp] theorem aKl:fw prog 150=some (149,3):=by kernel_rfl
@[simp] theorem aKN:ch prog 150=some (.st 149 [.st 130 [.st 128 [.int .i64 (0),.aL],.st 128 [.int .i64 (0),.aL]],.st 130 [.st 128 [.int .i64 (0),.aL],.st 128 [.int .i64 (0),.aL]],.st 130 [.st 128 [.int .i64 (0),.aL],.st 128 [.int .i64 (0),.aL]]]):=by kernel_rfl
@[simp] theorem aI1:kindOf prog 155=.leaf:=by kernel_rfl
@[simp] theorem aH4:cz prog 155=some 1:=by kernel_rfl
@[simp] theorem aIj:ey prog 155=22:=by kernel_rfl
@[simp] theorem aI2:kindOf prog 161=.agg 160:=by kernel_rfl
@[simp] theorem aKm:fw prog 161=some (160,4):=by kernel_rfl
@[simp] theorem aKO:ch prog 161=some (.st 160 [.str [],.int .i64 (0),.str [],.str []]):=by kernel_rfl
@[simp] theorem aI3:kindOf prog 163=.agg 123:=by kernel_rfl
@[simp] theorem aKn:fw prog 163=some (123,2):=by kernel_rfl
@[simp] theorem aKP:ch prog 163=some (.st 123 [.str [],.st 23 [.str [],.str []]]):=by kernel_rfl
@[simp] theorem aI4:kindOf prog 167=.agg 166:=by kernel_rfl
@[simp] theorem aKo:fw prog 167=some (166,3):=by kernel_rfl
@[simp] theorem aKQ:ch prog 167=some (.st 166 [.int .i64 (0),.st 132 [.st 130 [.st 128 [.int .i64 (0),.aL],.st 128 [.int .i64 (0),.aL]],.st 130 [.st 128 [.int .i64 (0),.aL],.st 128 [.int .i64 (0),.aL]]],.st 132 [.st 130 [.st 128 [.int .i64 (0),.aL],.st 128 [.int .i64 (0),.aL]],.st 130 [.st 128 [.int .i64 (0),.aL],.st 128 [.int .i64 (0),.aL]]]]):=by kernel_rfl
@[simp] theorem aI5:kindOf prog 169=.agg 168:=by kernel_rfl
@[simp] theorem aKp:fw prog 169=some (168,3):=by kernel_rfl
@[simp] theorem aI6:kindOf prog 172=.agg 171:=by kernel_rfl
@[simp] theorem aKq:fw prog 172=some (171,3):=by kernel_rfl
@[simp] theorem aKR:ch prog 172=some (.st 171 [.st 132 [.st 130 [.st 128 [.int .i64 (0),.aL],.st 128 [.int .i64 (0),.aL]],.st 130 [.st 128 [.int .i64 (0),.aL],.st 128 [.int .i64 (0),.aL]]],.st 132 [.st 130 [.st 128 [.int .i64 (0),.aL],.st 128 [.int .i64 (0),.aL]],.st 130 [.st 128 [.int .i64 (0),.aL],.st 128 [.int .i64 (0),.aL]]],.st 130 [.st 128 [.int .i64 (0),.aL],.st 128 [.int .i64 (0),.aL]]]):=by kernel_rfl
@[simp] theorem aI7:kindOf prog 175=.agg 160:=by kernel_rfl
@[simp] theorem aKr:fw prog 175=some (160,4):=by kernel_rfl
@[simp] theorem aKS:ch prog 175=some (.st 160 [.str [],.int .i64 (0),.str [],.str []]):=by kernel_rfl
@[simp] theorem aI8:kindOf prog 176=.agg 123:=by kernel_rfl
@[simp] theorem aKs:fw prog 176=some (123,2):=by kernel_rfl
@[simp] theorem aKT:ch prog 176=some (.st 123 [.str [],.st 23 [.str [],.str []]]):=by kernel_rfl
@[simp] theorem aI9:kindOf prog 179=.agg 178:=by kernel_rfl
@[simp] theorem aKt:fw prog 179=some (178,2):=by kernel_rfl
@[simp] theorem aKU:ch prog 179=some (.st 178 [.int .i64 (0),.int .i64 (0)]):=by kernel_rfl
@[simp] theorem aJb:kindOf prog 223=.agg 222:=by kernel_rfl
@[simp] theorem aKu:fw prog 223=some (222,2):=by kernel_rfl
@[simp] theorem aKW:ch prog 223=some (.st 222 [.bool false,.aL]):=by kernel_rfl
@[simp] theorem aH5:cz prog 238=some 1:=by kernel_rfl
@[simp] theorem aIk:ey prog 238=28:=by kernel_rfl
@[simp] theorem aJd:kindOf prog 253=.leaf:=by kernel_rfl
@[simp] theorem aHG:iA prog 253=true:=by kernel_rfl
@[simp] theorem aH6:cz prog 253=some 33:=by kernel_rfl
@[simp] theorem aIl:ey prog 253=169:=by kernel_rfl
@[simp] theorem aKY:ch prog 253=some (.aL):=by kernel_rfl
@[simp] theorem aJe:kindOf prog 271=.agg 270:=by kernel_rfl
@[simp] theorem aHC:gT prog 271=some (270,2):=by kernel_rfl
@[simp] theorem aKZ:ch prog 271=some (.st 270 [.st 130 [.st 128 [.int .i64 (0),.aL],.st 128 [.int .i64 (0),.aL]],.st 130 [.st 128 [.int .i64 (0),.aL],.st 128 [.int .i64 (0),.aL]]]):=by kernel_rfl
@[simp] theorem aH7:cz prog 304=some 2:=by kernel_rfl
@[simp] theorem aIm:ey prog 304=24:=by kernel_rfl
@[simp] theorem aJh:kindOf prog 309=.leaf:=by kernel_rfl
@[simp] theorem aK2:ch prog 309=some (.int .u64 (0)):=by kernel_rfl
@[simp] theorem aJi:kindOf prog 333=.agg 333:=by kernel_rfl
@[simp] theorem aHD:gT prog 333=some (333,2):=by kernel_rfl
@[simp] theorem aK3:ch prog 333=some (.st 333 [.st 270 [.st 130 [.st 128 [.int .i64 (0),.aL],.st 128 [.int .i64 (0),.aL]],.st 130 [.st 128 [.int .i64 (0),.aL],.st 128 [.int .i64 (0),.aL]]],.st 270 [.st 130 [.st 128 [.int .i64 (0),.aL],.st 128 [.int .i64 (0),.aL]],.st 130 [.st 128 [.int .i64 (0),.aL],.st 128 [.int .i64 (0),.aL]]]]):=by kernel_rfl
@[simp] theorem aJj:kindOf prog 358=.leaf:=by kernel_rfl
@[simp] theorem aH8:cz prog 358=some 1:=by kernel_rfl
@[simp] theorem aIn:ey prog 358=5:=by kernel_rfl
@[simp] theorem aJk:kindOf prog 360=.agg 359:=by kernel_rfl
@[simp] theorem aKw:fw prog 360=some (359,2):=by kernel_rfl
@[simp] theorem aK4:ch prog 360=some (.st 359 [.dJ,.aL]):=by kernel_rfl
@[simp] theorem aJm:kindOf prog 411=.agg 410:=by kernel_rfl
@[simp] theorem aHE:gT prog 411=some (410,256):=by kernel_rfl
@[simp] theorem aGu:du prog 23=some [1,1]:=by kernel_rfl
@[simp] theorem aGv:du prog 47=some [1,1,1,1]:=by kernel_rfl
@[simp] theorem aKJ:du prog 54=some [1,1,1,1]:=by kernel_rfl
@[simp] theorem aGr:du prog 123=some [1,2]:=by kernel_rfl
@[simp] theorem aKz:du prog 128=some [1,1]:=by kernel_rfl
@[simp] theorem aKA:du prog 130=some [2,2]:=by kernel_rfl
@[simp] theorem aKB:du prog 132=some [4,4]:=by kernel_rfl
@[simp] theorem aKC:du prog 149=some [4,4,4]:=by kernel_rfl
@[simp] theorem aGs:du prog 160=some [1,1,1,1]:=by kernel_rfl
@[simp] theorem aKD:du prog 166=some [1,8,8]:=by kernel_rfl
@[simp] theorem aKE:du prog 168=some [17,4,12]:=by kernel_rfl
@[simp] theorem aKF:du prog 171=some [8,8,4]:=by kernel_rfl
@[simp] theorem aGt:du prog 178=some [1,1]:=by kernel_rfl
@[simp] theorem aKG:du prog 222=some [1,1]:=by kernel_rfl
@[simp] theorem aKH:du prog 270=some [4,4]:=by kernel_rfl
@[simp] theorem aKI:du prog 333=some [8,8]:=by kernel_rfl
set_option maxRecDepth 100000
section
variable{H:Type}{w:a0}{aa:Nat->Prop}
theorem D4{P:aT}:∀{l:List Nat}{d:List PV}{b:List (List av)},bg P w aa l d b->∀e∈d,∃c,aV P w aa e c
 |_,[],_,_=>fun e a=>by cases a
 |[],v::vs,_,h=>by simp[bg]at h
 |n::i,v::vs,b,h=>by
  simp only[bg]at h;obtain⟨c,cs,_,f,_,g⟩:=h;intro e a;rcases b0.1 a with rfl|a
  ·exact⟨c,f⟩
  ·exact D4 g e a
theorem vU{n:Nat}(d:ay H)(c)(h:aV prog w aa (bH prog (n+1) 3 d) c):∃z:Int,bH prog (n+1) 3 d=.int .i64 z:=by
 cases d with
 |lit l=>
  cases l with
  |int k z=>
   simp only[bH,Dt]at h⊢
   split at h
   ·rename_i a;rw[if_pos a];exact⟨_,rfl⟩
   ·simp only[aV]at h
  |_=>simp only[bH,Dt,aV]at h
 |_=>simp only[bH,Dt,aV]at h
end
theorem Fq{P:aT}{W:a0}{name:String}{d:ay Unit}:∀{l:List (String×ay Unit)}{b:List ap},DataW.LaidVars P W l b->(name,d)∈l->
 ∃g t cs a p,P.globalNamed name=some g/\(P.globals[g]?).map (·.type)=some t/\W.var? P name=some cs/\a2 (fun _=>()) P W 0 (fun _=>true) false a t cs.toList=some (d,p)/\∀x∈MemPlace.row ⟨g,0,none⟩ cs.size,x∈b
 |[],_,_,h=>by cases h
 |(n,d0)::r,b,h,hm=>by
  obtain⟨g,t,cs,a,p,q,j,k,m,o,s,rfl⟩:=h;rcases b0.1 hm with e|hm
  ·cases e;exact⟨g,t,cs,a,p,j,k,m,o,fun x hx=>by simp[hx]⟩
  ·obtain⟨i,v,c,f,u,k1,k2,k3,k4,k5⟩:=Fq s hm;exact⟨i,v,c,f,u,k1,k2,k3,k4,fun x hx=>by simp[k5 x hx]⟩
open Go.Proofs Go.Proofs.YtanjnahmbanmaaaGreatDoor
theorem Ho:prog.globalNamed "internal/strconv.uint64pow10" =some 3:=by kernel_rfl
theorem R3:((Rows.aimContactsUptoRow.laid).filter fun x=>x.2.handleName?.isSome)=[]:=by kernel_rfl
theorem aFP:(prog.globals[3]?).map (·.type)=some 417:=by kernel_rfl
theorem aFQ:prog.underlying 417=some (.array 20 309):=by kernel_rfl
theorem aFN:prog.underlying 309=some (.int .u64):=by kernel_rfl
theorem aFL:prog.cellsOf 309=1:=by kernel_rfl
theorem aFM:prog.cellsOf 417=20:=by kernel_rfl
theorem Ym{W:a0}(h:laidMetH prog Rows.aimContactsUptoRow.laid W):mi prog W (fun k=>k<W.heap.size):=by
 unfold laidMetH at h;rw[R3]at h;obtain⟨n,j,_,l⟩:=h;obtain⟨g,t,cs,fuel,p,k1,k2,k3,k4,k5⟩:=Fq (name:= "internal/strconv.uint64pow10") (d:=Lib.tabData .u64 Lib.pow10Tab) j (by
  show _∈[_,_,_,_,_,_,_];exact bd _ (bd _ be))
 rw[Ho]at k1;cases k1;rw[aFP]at k2;cases k2;have f:=Lib.cells_of_tab aFQ aFN aFL aFM k4;have e:cs=Dp:=by rw[Dp,<-f]
 have i:0<cs.size:=by rw[e];decide
 obtain⟨⟨c,T,b⟩,_⟩:=l 3 0 (k5 _ (by simp[MemPlace.row];exact i));refine⟨fun g=>by simp[aB,Gl.g],fun g m a=>?_⟩
 match g,a with
 |3,a=>
  cases a;refine⟨(am.1 b).1,T,?_⟩;simp only[World.var?,Ho,Option.bind_some,b,Option.some.injEq]at k3;rw[b,k3,e]
section
variable[Gl]{P:aT}
theorem V0{f:FuncId}{args:List PV}{v:PV}(g:Enters P f)(h:au P f args v){w:a0}{aa:Nat->Prop}{a:List av}(d:∀k,aa k->k<w.heap.size)(i:mi P w aa)(c:bE P w aa args a):
 Calls P f a.toArray w fun e w'=>∃b,∃aE:Nat->Prop,e=.returned b/\w.heap.size<=w'.heap.size/\(∀k,k<w.heap.size->w'.heap[k]?=w.heap[k]?)/\(w'.os=w.os/\w'.output=w.output)/\aB P w' aE v b:=by
 rcases h with h|h
 ·refine(h.2 w aa a d i c).mono ?_;rintro e w' ⟨b,aE,k1,_,_,_,k5,k6,j,k7⟩;exact⟨b,aE,k1,k5,k6,j,k7⟩
 ·obtain⟨b,k1,_⟩:=h w aa a c;rw[g a.toArray w]at k1;cases k1
theorem aEM{w w':a0}(h:∀k,k<w.heap.size->w'.heap[k]?=w.heap[k]?)(a:w'.os=w.os/\w'.output=w.output)(b:ap->Prop):w.keptBut w' b:=by
 refine⟨a.1,a.2,fun i hi=>?_⟩;rw[h i hi];cases w.heap[i]? with
 |none=>rfl
 |some o=>cases o<;>first|exact⟨rfl,rfl,rfl,fun _ _=>rfl⟩|exact .inr ⟨rfl,rfl⟩|rfl
theorem aGa{w w':a0}(h:∀k,k<w.heap.size->w'.heap[k]?=w.heap[k]?){p:ap}(a:p.block<w.heap.size):w.sameAt w' p:=by
 cases p with
 |cell b o=>simp only[a9,a8];rw[h b a]
 |map b=>simp only[a9];rw[h b a]
theorem Sr{H:Type}{e:ax×av->H}{f:Func}{s:a1}{apart fresh handsOn:Bool}{W c:a0}{args:Array av}{v:av}{d g:List (ay H)}{a pa pv:List ap}
 (j:a4 e P f.params.toList s.vars apart W args.toList d g a)
 (o:∀(b:Nat)(sp:Nat->Bool)(m:Bool),a3 e P c b sp m f.resultTypes.toList (v.resultList f.resultTypes.size) (s.fn H (d++g)).results [])
 (l:∀sp:Nat->Bool,(∀p∈a,sp p.block=true)->a3 e P c 0 sp true f.params.toList args.toList (s.fn H (d++g)).args pa)
 (q:∀sp:Nat->Bool,(∀p∈a,sp p.block=true)->DataW.TrodVars e P c sp s.vars (s.fn H (d++g)).vars pv)
 (n:a=pa++pv)(hk:W.keptBut c (·∈a)):s.post e P f apart fresh handsOn false W args v c:=by
 have k:∀p∈a,(fun b=>decide (b<W.heap.size)) p.block=true:=fun p i=>by simpa using j.lt p i
 refine⟨d,g,a,[],pa,pv,j,o _ _ _,l _ k,q _ k,World.keptBut_mono (fun p i=>⟨i,?_⟩) hk,fun h=>by cases h⟩;rw[n,List.mem_append]at i;exact Or.inr i
end
section
variable{H:Type}{enc:ax×av->H}{P:aT}{w:a0}
theorem UC{n:Nat}{t:ax}{d:ay H}{cs:List av}{aa:Nat->Prop}(h:aV P w aa (bH P n t d) cs):
 (((∃fs,P.underlying t=some (.struct fs))\/∃m e,P.underlying t=some (.array m e))/\∃u,aJ (bH P n t d)=.agg u)\/((P.underlying t=some .bool\/(∃k,P.underlying t=some (.int k))\/P.underlying t=some .string\/∃e,P.underlying t=some (.slice e))/\aJ (bH P n t d)=.leaf):=by
 cases n with
 |zero=>simp only[bH,aV]at h
 |succ n=>
  unfold bH at h⊢
  split at h
  ·rename_i a;exact .inr ⟨.inl a,rfl⟩
  ·rename_i k z a
   split at h
   ·rename_i b;rw[if_pos b];exact .inr ⟨.inr (.inl ⟨_,a⟩),rfl⟩
   ·simp only[aV]at h
  ·rename_i a;exact .inr ⟨.inr (.inr (.inl a)),rfl⟩
  ·rename_i a;exact .inr ⟨.inr (.inr (.inr ⟨_,a⟩)),rfl⟩
  ·rename_i a;exact .inr ⟨.inr (.inr (.inr ⟨_,a⟩)),rfl⟩
  ·rename_i a;exact .inl ⟨.inl ⟨_,a⟩,_,rfl⟩
  ·rename_i a;exact .inl ⟨.inr ⟨_,_,a⟩,_,rfl⟩
  ·simp only[aV]at h
theorem UA[Gl]{n:Nat}{t:ax}{v:av}{d:ay H}{f:List ap}{g i:Nat}{r:Reach}(j:kP P n t=true)(h:DataW.Trod enc P w g (fun _=>true) true t v d f)(b:a5 P w r i t v):
 aB P w (fun k=>k<w.heap.size) (bH P n t d) v:=by
 obtain⟨fuel,h⟩:=h;have hc:=uk n fuel t _ d f j h;rcases UC hc with⟨a,u,hs⟩|⟨a,hs⟩
 ·have:∃cs,v=.agg cs:=by
   rcases a with⟨fs,a⟩|⟨m,e,a⟩
   ·simp only[a5,a]at b;obtain⟨cs,rfl,_,_⟩:=b;exact⟨cs,rfl⟩
   ·simp only[a5,a]at b;obtain⟨cs,rfl,_,_⟩:=b;exact⟨cs,rfl⟩
  obtain⟨cs,rfl⟩:=this;rw[uC hs]at hc;simpa[a6]using hc
 ·rw[rL hs]at hc;obtain⟨c,hc,l⟩:=hc;have:v=c:=by
   cases v with
   |agg cs=>rcases a with a|⟨k,a⟩|a|⟨e,a⟩<;>simp[a5,a,Cell.okWide,Cell.ok]at b
   |_=>simpa[a6]using hc
  rw[this];exact l
def ql(P:aT)(n:Nat):List ax->List (ay H)->List PV
 |t::ts,d::ds=>bH P n t d::ql P n ts ds
 |_,_=>[]
theorem AU[Gl]{n:Nat}{base:Nat}{r:Reach}:∀{ts:List ax}{vs:List av}{ds:List (ay H)}{h:List ap},(∀t∈ts,kP P n t=true)->a3 enc P w 0 (fun _=>true) true ts vs ds h->
 (∀(j:Nat) t v,ts[j]?=some t->vs[j]?=some v->a5 P w r base t v)->bE P w (fun k=>k<w.heap.size) (ql P n ts ds) vs/\ds.length=ts.length
 |[],[],[],_,_,_,_=>by simp[ql,bE]
 |t::ts,v::vs,d::ds,_,b,⟨p,q,e,f,_⟩,c=>by
  have⟨i1,i2⟩:=AU (ts:=ts) (vs:=vs) (ds:=ds) (fun t a=>b t (bd _ a)) f (fun j t v a g=>c (j+1) t v (by simpa using a) (by simpa using g));refine⟨?_,by simp[i2]⟩;simp only[ql,bE];exact⟨v,vs,rfl,UA (b t be) e (c 0 t v rfl rfl),i1⟩
theorem H6{n:Nat}:∀{ts:List ax}{vs:List av}{ds:List (ay H)}{g:List ap},(∀t∈ts,kP P n t=true)->a3 enc P w 0 (fun _=>true) true ts vs ds g->
 ∀p∈ts.zip ds,∃cs,aV P w (fun k=>k<w.heap.size) (bH P n p.1 p.2) cs
 |[],[],[],_,_,_=>by simp
 |t::ts,v::vs,d::ds,_,a,⟨p,q,⟨fuel,b⟩,c,_⟩=>by
  have f:=H6 (ts:=ts) (vs:=vs) (ds:=ds) (fun t e=>a t (bd _ e)) c;intro x hx;rw[b2]at hx;rcases b0.1 hx with rfl|hx
  ·exact⟨_,uk n fuel t _ d p (a t be) b⟩
  ·exact f x hx
theorem Fj{w':a0}{f:Nat}{g:Nat->Bool}{held:Bool}:∀{c:List ax}{vs:List av}{a:List (ay H)}{b:List ap},a3 enc P w f g held c vs a b->(∀p∈b,w.sameAt w' p)->
 a3 enc P w' f g held c vs a b
 |[],[],[],_,h,_=>h
 |t::c,v::vs,d::a,_,⟨p,q,⟨n,i⟩,j,e⟩,hs=>by
  subst e;exact⟨p,q,⟨n,DataW.trod_carry n _ _ _ i fun x hx=>hs x (List.mem_append_left _ hx)⟩,Fj j fun x hx=>hs x (List.mem_append_right _ hx),rfl⟩
theorem Q1[Gl]{f:FuncId}{fn:Func}{s:a1}{n:Nat}{T:ax->Prop}(u:s.vars=[])(D:∀(H:Type)(a:List (ay H)),a.length=fn.params.size->(s.fn H a).results=[.lit (.bool true)]/\(s.fn H a).args=a/\(s.fn H a).vars=[])
 (K:Kids P T)(O:∀t e,T t->P.underlying t=some (.slice e)->0<P.cellsOf e)(z:∀t∈fn.params.toList,T t)(r:∀t∈fn.params.toList,kP P n t=true){tb:ax}(J:fn.resultTypes=#[tb])(B:P.underlying tb=some .bool)
 (C:Enters P f){W:a0}{args:Array av}{a c:List (ay H)}{y:List ap}{w:Nat}(E:mi P W (fun k=>k<W.heap.size))
 (F:(∀p∈fn.params.toList.zip a,∃cs,aV P W (fun k=>k<W.heap.size) (bH P n p.1 p.2) cs)->au P f (ql P n fn.params.toList a) (.bool true))
 (N:∀(j:Nat) t v,fn.params[j]?=some t->args[j]?=some v->a5 P W .any w t v)
 (o:a4 enc P fn.params.toList s.vars false W args.toList a c y):
 Calls P f args W fun e l=>∃v,e=.returned v/\s.post enc P fn false true false false W args v l:=by
 have A:=o;obtain⟨p,q,d,h,rfl,R,S⟩:=o;rw[u]at h;have⟨i,hlen⟩:=AU r d (fun j t v L M=>N j t v (by simpa using L) (by simpa using M));have G:c=[]/\q=[]:=by
  cases c with
  |nil=>exact⟨rfl,h⟩
  |cons g c=>exact h.elim
 obtain⟨rfl,rfl⟩:=G;have hc:=V0 C (F (H6 r d)) (fun k hk=>hk) E i;refine hc.mono ?_;rintro e l ⟨m,aE,rfl,k1,k2,k3,k4⟩;refine⟨m,rfl,?_⟩;obtain⟨f1,f2,f3⟩:=D H (a++[]) (by simpa using hlen);have e1:m=.bool true:=by simpa[aB]using k4
 have I:=DataW.TrodAll.lt d;refine Sr (pa:=p) (pv:=[]) A ?_ ?_ ?_ rfl (aEM k2 k3 _)
 ·intro b sp Q;rw[f1,J,e1];refine⟨[],[],⟨1,?_⟩,rfl,rfl⟩;simp[a2,B,a6]
 ·intro sp hs;rw[f2];simp only[List.append_nil]at hs⊢;exact Fj (DataW.TrodAll.respare K O z d fun p i=>hs p i) fun x hx=>aGa k2 (I x hx)
 ·intro sp hs;rw[f3,u];rfl
end
end Go.az
