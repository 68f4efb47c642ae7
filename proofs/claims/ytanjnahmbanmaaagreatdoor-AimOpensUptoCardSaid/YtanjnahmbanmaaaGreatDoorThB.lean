import Derived.Test.YtanjnahmbanmaaaGreatDoorThA
import Derived.Lib.Strings
import Derived.Laws.Append
import Derived.Laws.StructEq
import Derived.Laws.Concat
import Derived.MapKept
/- Parts of a proof. -/
set_option linter.unusedSimpArgs false
set_option linter.unusedVariables false
set_option linter.unusedSectionVars false
open Array renaming ext'->b5, getElem?_toList->cb, replicate->cc, range->ce, getD_eq_getD_getElem?->ck, mapM_eq_mapM_toList->cv, getElem_toList->cx, length_toList->cy, getElem?_push->c6, foldl_toList->c9, toList_map->da
open Bool renaming false_eq_true->db, and_eq_true->dg
open Go renaming run_underlying->dk, Value->dl, Operand->dp, TypeId->dq, execOp->dz, World->ea, Program->eb, TypeInfo->ec, setRow_other->ed, ResultVar->ee, setRow_heap->ei, run_newObj->ej, FuncId->em, run_firstCells_some->en, run_storeCells_at->eo, IntKind->eq, step_lone_go->ew, setRow_size->e6, Steps->e7, Frame->e8, Field->e9, BinOp->fb
open Go.Builtin renaming firstCells->fl, append_->fm, len_->fv, lenOf->fw, zeroCells->gb, nextslicecap->gc, copy_->ge
open Go.ByteArray renaming toList_eq->gg
open Go.Instr renaming sliceBounds->gi, slice->gj, sureAddr->gm, sliceBound->gt, indexAt->gx, sliceAt->gy, fill->g0, build->g7
open Go.Op renaming operands->g8, equalIn->g9, equal->ha, bytesLess->hb, eqFields->hd, unary->he, stringOp->hg, intArith->hh, intBits->hj
open Go.Program renaming cellsOf->hl, underlying->hm, underlyingId->hn, fieldsOf->ho
open Go.Result renaming andThen_ok->hp
open Go.Sem renaming run_bind->hr, run_pure->ht, run_map->hv, run->hw
open Go.Steps renaming trans->hz, one->hA
open Go.Value renaming oneCell'->hB, int->hC, cells->hD
open List renaming getElem?_eq_some_iff->hE, getElem?_set_self->hF, replicate->hG, length_append->hH, sum_replicate_nat->hJ, take_replicate->hK, length_eq_zero_iff->hL, append_assoc->hM, mem_of_mem_take->hN, mem_cons_of_mem->hO, getElem?_eq_getElem->hP, getElem?_replicate->hQ, mem_of_mem_drop->hR, append_nil->hS, flatten_cons->hT, mem_cons->hU, map_cons->hV, take_of_length_le->hW, mem_of_getElem?->hX, length->hZ, getElem?_set_ne->h0, drop_take->h1, length_pos_iff->h2, flatten_append->h3, mem_singleton->h4, size_toArray->h5, mem_append->h6, mem_or_eq_of_mem_set->h7, getElem_append_right->h8, getElem_append_left->h9, eq_of_mem_replicate->ih, getElem?_cons_succ->ii, replicate_succ->ik, getElem?_map->ip, getElem_mem->ix, flatten_nil->iz, nil_append->i0, mapM_cons->i1, map_take->i3, mem_map->i4
open Nat renaming le_refl->i5, lt_irrefl->i6, min_eq_left->i7, add_mul->i8, add_zero->i9, add_sub_cancel_left->jh, mul_le_mul->jp, add_assoc->js, zero_mul->j1, zero_add->j2, sub_zero->j3, ne_of_lt->j4
open Option renaming isSome_iff_exists->j5, map_none->j6, bind_some->j7, map_some->j8
open Option.some renaming injEq->j9, inj->kb
open Prod renaming snd->kc, fst->kd
namespace Go.ak
set_option linter.unusedSectionVars false
variable[Gl]
def iG(i:Nat):List AV->Env
 |[]=>[]
 |v::r=>(i,v)::iG (i+1) r
def o6(P:eb)(s:St):ee->Option AV
 | .tmp t=>some (aQ s.env t)
 | .cell a T=>match aQ s.env a with
  | .ptr b path=>match s.heap[b]? with
   |some (.box _ t)=>match eK t path with
    |some v=>if kindOf P T=aa v then some v else none
    |none=>none
   |_=>none
  |_=>none
def fC(P:eb)(s:St):List ee->Option (List AV)
 |[]=>some []
 |r::rs=>match o6 P s r,fC P s rs with
  |some v,some vs=>some (v::vs)
  |_,_=>none
def oneOf:List AV->AV
 |[v]=>v
 |vs=>match eE vs with
  |some l=>.p (.aC l)
  |none=>.aC vs
def jM(f:AV->Option PV):List AV->Option (List PV)
 |[]=>some []
 |v::vs=>match f v,jM f vs with
  |some p,some a=>some (p::a)
  |_,_=>none
def et(H:aj):Nat->AV->Option PV
 |0,.p v=>some v
 |0,_=>none
 |n+1,x=>match x with
  | .p v=>some v
  | .sl b az ai off len=>match H[b]? with
   |some (.arr k e c es)=>
    if az=e/\ai=c/\off+len<=es.length then
     if k.gr=true/\es=[]then some .aO else
     match jM (et H n) ((es.drop off).take len)with
     |some d=>some (.cN (k== .exact&&off+len==es.length) d)
     |none=>none
    else none
   |_=>none
  | .ptr b path=>match H[b]? with
   |some (.box _ t)=>match eK t path with
    |some s=>match et H n s with
     |some p=>some (.cm p)
     |none=>none
    |none=>none
   |_=>none
  | .map b=>match H[b]? with
   |some (.map _ es)=>some (.dT es)
   |_=>none
  | .func f fi ca=>match jM (et H n) fi,jM (et H n) ca with
   |some a,some b=>some (.func f a b)
   |_,_=>none
  | .st u fs=>match jM (et H n) fs with
   |some l=>some (.st u l)
   |none=>none
  | .aC vs=>match jM (et H n) vs with
   |some l=>some (.aC l)
   |none=>none
  | .bZ _ _ _ _ _=>none
section
variable{P:eb}{w:ea}{ad ah:Nat->Prop}{β:Bd}{H:aj}
def Dh(ad:Nat->Prop)(β:Bd)(H:aj)(k:Nat):Prop:=ad k\/∃(b:Nat)(o:Obj),H[b]?=some o/\o.live/\β.an b=k
theorem Jc:∀{n:Nat}{v:AV}{p:PV},et H n v=some p->(aa v=aL p)
 |0,v,p,h=>by
  cases v<;>simp[et]at h;subst h;rfl
 |n+1,v,p,h=>by
  cases v<;>simp only[et]at h
  case p v=>simp at h;subst h;rfl
  case bZ=>simp at h
  case sl b az ai off len=>
   split at h
   ·split at h
    ·split at h
     ·simp at h;subst h;rfl
     ·split at h
      ·simp at h;subst h;rfl
      ·simp at h
    ·simp at h
   ·simp at h
  case ptr b path=>
   split at h
   ·split at h
    ·split at h
     ·simp at h;subst h;rfl
     ·simp at h
    ·simp at h
   ·simp at h
  all_goals
   split at h
   ·simp at h;subst h;rfl
   ·simp at h
theorem HJ{v:AV}{p:PV}{cs:List dl}(hs:aa v=aL p)(hc:br P w ad β H v cs){I:Nat->Prop}(h:∀x,aA P w ad β H v x->aD P w I p x):aY P w I p cs:=by
 cases a:aa v with
 |bad=>exact((nt hc).2 a).elim
 |leaf=>
  obtain⟨c,rfl,b⟩:=(B4 a cs).1 hc;exact(sF (hs▸a) _).2 ⟨c,rfl,h _ b⟩
 |agg u=>exact(u6 (hs▸a) cs).2 (h _ ((LH a cs).1 hc))
section lists
variable{f:AV->Option PV}{I:Nat->Prop}(hf:∀v p,f v=some p->aa v=aL p/\(aE (aJ H) v->∀x,aA P w ad β H v x->aD P w I p x))
include hf
theorem xJ:∀{vs:List AV}{a:List PV},jM f vs=some a->aX (aJ H) vs->∀b,bF P w ad β H vs b->bJ P w I a b
 |[],a,h,_,b,hx=>by
  simp[jM]at h;subst h;simpa[bF,bJ]using hx
 |v::vs,a,h,c,b,hx=>by
  simp only[jM]at h
  split at h
  case h_2=>simp at h
  rename_i q g hq d;simp at h;subst h;simp only[aX]at c;simp only[bF]at hx;obtain⟨y,e,rfl,k1,k2⟩:=hx;simp only[bJ];exact⟨y,e,rfl,(hf _ _ hq).2 c.1 _ k1,xJ d c.2 _ k2⟩
theorem Bc:∀{vs:List AV}{b:List PV},jM f vs=some b->aX (aJ H) vs->∀l a,bM P w ad β H l vs a->bk P w I l b a
 |[],b,h,_,l,a,hx=>by
  simp[jM]at h;subst h;cases l<;>simp_all [bM,bk]
 |v::vs,b,h,d,l,a,hx=>by
  simp only[jM]at h
  split at h
  case h_2=>simp at h
  rename_i q g hq e;simp at h;subst h;simp only[aX]at d;cases l with
  |nil=>simp[bM]at hx
  |cons m l=>
   simp only[bM]at hx;obtain⟨c,cs,rfl,k1,k2,k3⟩:=hx;simp only[bk];exact⟨c,cs,rfl,HJ (hf _ _ hq).1 k1 ((hf _ _ hq).2 d.1),k2,Bc e d.2 _ _ k3⟩
end lists
theorem xo(e:bU P w ad β H ah):∀(n:Nat)(v:AV)(p:PV),et H n v=some p->aE (aJ H) v->∀x,aA P w ad β H v x->aD P w (Dh ad β H) p x
 |0,v,p,h,_,x,hx=>by
  cases v<;>simp[et]at h;subst h;simp only[aA]at hx;exact aD.mono (fun _=>.inl) (fun _ _=>rfl) _ _ hx
 |n+1,v,p,h,g,x,hx=>by
  have hf:∀v p,et H n v=some p->aa v=aL p/\(aE (aJ H) v->∀x,aA P w ad β H v x->aD P w (Dh ad β H) p x):=fun v p h=>⟨Jc h,xo e n v p h⟩
  cases v<;>simp only[et]at h
  case p v=>
   simp at h;subst h;simp only[aA]at hx;exact aD.mono (fun _=>.inl) (fun _ _=>rfl) _ _ hx
  case bZ=>simp at h
  case sl b az ai off len=>
   split at h
   case h_2=>simp at h
   rename_i k ae Y i d
   split at h
   case isFalse=>simp at h
   rename_i L;obtain⟨rfl,rfl,z⟩:=L;simp only[aA]at hx;obtain⟨_,hx⟩:=hx;simp only[bR]at hx;obtain⟨v1,v2,v3⟩:=hx k i d
   split at h
   ·rename_i y;simp at h;subst h;simp[aD,v2 y]
   ·rename_i y
    split at h
    case h_2=>simp at h
    rename_i W O;simp at h;subst h;rw[v3 y];rcases e.cJ b _ d with hold|⟨cs,T,C,rest,j,r,B,G,Z,I,ab,ac⟩
    ·exact(y hold).elim
    obtain⟨a,m,c,e1,e2,e3,e4,e5⟩:=jD r off len v1;have R:aX (aJ H) ((i.drop off).take len):=by
     have:=e.refs b _ d;rw[cV];intro v S;exact cV.1 this v (hR (hN S))
    have M:((i.drop off).take len).length=len:=by simp;omega
    have k1:=Bc hf O R _ _ e2;have A:W.length=len:=by have:=(uh k1).2.1;simp at this;omega
    simp only[aD];refine⟨β.an b,off*ai,β.cap b-off,ai,m,by rw[A,<-M];exact k1,fun _=>.inr ⟨b,_,d,y,rfl⟩,?_,?_,?_,none,.inl rfl,?_⟩
    ·rw[<-e3];exact lF j (post:=c.flatten++rest) (by rw[B,e1];simp)
    ·intro hf;simp at hf;rw[A,I hf.1];omega
    ·rw[A];omega
    ·rw[A]
  case ptr b path=>
   split at h
   case h_2=>simp at h
   rename_i fz t d
   split at h
   case h_2=>simp at h
   rename_i s hs
   split at h
   case h_2=>simp at h
   rename_i q hq;simp at h;subst h;simp only[aA]at hx;obtain⟨_,hx⟩:=hx;simp only[bR]at hx;obtain⟨X,V,o,rfl,N,hx⟩:=hx;obtain⟨rfl,rfl⟩:=hx (.inl ⟨fz,_,d⟩);obtain⟨cs,T,j,r,B,G⟩:=e.cJ b _ d;obtain⟨pre,xs,post,e1,e2,e3,_⟩:=oQ r hs N;have Q:aE (aJ H) s:=uJ hs (e.refs b _ d);simp only[aD];refine⟨β.an b,V,xs,HJ (Jc hq) e3 (xo e n _ _ hq Q),.inr ⟨b,_,d,trivial,rfl⟩,?_,rfl⟩;rw[<-e2];exact lF j e1
  case map b=>
   split at h
   case h_2=>simp at h
   rename_i fz i d;simp at h;subst h;simp only[aA]at hx;obtain⟨_,hx⟩:=hx;simp only[bR]at hx;have hx:=hx.1 ⟨fz,i,d⟩;obtain⟨E,clock,j,r,B⟩:=e.cJ b _ d;simp only[aD];exact⟨β.an b,E,clock,.inr ⟨b,_,d,trivial,rfl⟩,j,cH.mono (fun _=>.inl) (fun _ _=>rfl) _ _ r,hx⟩
  case func f a b=>
   split at h
   case h_2=>simp at h
   rename_i a' b' J K;simp at h;subst h;simp only[aE]at g;simp only[aA]at hx;obtain⟨F,D,k1,k2,k3⟩:=hx;simp only[aD];exact⟨F,D,xJ hf J g.1 _ k1,xJ hf K g.2 _ k2,k3⟩
  case st u fs=>
   split at h
   case h_2=>simp at h
   rename_i l z;simp at h;subst h;simp only[aE]at g;simp only[aA]at hx;obtain⟨U,C,k1,k2,k3⟩:=hx;simp only[aD];exact⟨U,C,k1,Bc hf z g _ _ k2,k3⟩
  case aC vs=>
   split at h
   case h_2=>simp at h
   rename_i l z;simp at h;subst h;simp only[aE]at g;simp only[aA]at hx;obtain⟨xs,k1,k2⟩:=hx;simp only[aD];exact⟨xs,xJ hf z g _ k1,k2⟩
end
section
variable{P:eb}{ag:em->Bool}{fit:Nat->Array Oper->Bool}
theorem Ba:∀(args:List AV)(i x:Nat),aQ (iG i args) x=if i<=x then(args[x-i]?).getD (.p .undef)else .p .undef
 |[],i,x=>by simp[iG,aQ]
 |v::r,i,x=>by
  simp only[iG,aQ,Ba r]
  by_cases h:x=i
  ·subst h;simp
  ·by_cases b:i<=x
   ·have a:i+1<=x:=by omega
    simp only[h,b,a,if_true,if_false];rw[show x-i=(x-(i+1))+1 by omega,ii]
   ·have a:¬i+1<=x:=by omega
    simp[h,b,a]
theorem sG{w:ea}{ad:Nat->Prop}{β:Bd}{H:aj}:∀{vs:List AV}{xs:List dl},bF P w ad β H vs xs->xs.length=vs.length/\∀i:Nat,aA P w ad β H ((vs[i]?).getD (.p .undef)) ((xs[i]?).getD undef)
 |[],xs,h=>by simp only[bF]at h;subst h;simp[aA,aD]
 |v::vs,xs,h=>by
  simp only[bF]at h;obtain⟨y,c,rfl,a,b⟩:=h;have:=sG b;refine⟨by simp[this.1],fun i=>?_⟩;cases i with
  |zero=>simpa using a
  |succ i=>simpa using this.2 i
theorem UZ{ah ad:Nat->Prop}{β:Bd}{w:ea}{H:aj}{args:List AV}{a:List dl}{n:Nat}(f:bU P w ad β H ah)(d:bF P w ad β H args a)(g:aX (aJ H) args)(i:args.length<=n):
 cK P n ah ad β ⟨iG 0 args,H⟩ (a.toArray++cc (n-a.length) undef) w:=by
 obtain⟨b,c⟩:=sG d;refine⟨f,fun x=>?_,fun x=>?_,by simp[b];omega⟩
 ·have e:(a.toArray++cc (n-a.length) undef).getD x undef=(a[x]?).getD undef:=by
   rw[ck,<-cb];simp only[Array.toList_append,Array.toList_replicate]
   by_cases hx:x<a.length
   ·rw[List.getElem?_append_left (by simpa using hx)]
   ·rw[List.getElem?_append_right (by simpa using hx)];simp only[hQ];rw[List.getElem?_eq_none (by simpa using hx)]
    split<;>rfl
  rw[e,Ba];simpa using c x
 ·rw[Ba];simp only[Nat.zero_le,if_true,j3];cases h:args[x]? with
  |none=>simp[aE]
  |some v=>exact cV.1 g v (hX h)
theorem GP{w:ea}{ad:Nat->Prop}{β:Bd}{H:aj}{T:dq}{v:AV}{an off:Nat}{a:List dl}(hk:kindOf P T=aa v)(f:br P w ad β H v a)(hc:gK w an off a):
 ∃g,(loadVar T ⟨an,off,none⟩).run P w=.ok g w/\aA P w ad β H v g:=by
 obtain⟨o,n⟩:=nt f;have m:∀j,(⟨an,off,none⟩:Addr).add j=⟨an,off+j,none⟩:=by intro j;unfold Addr.add;split<;>simp_all
 unfold kindOf at hk;cases hs:aa v with
 |bad=>exact(n hs).elim
 |leaf=>
  rw[hs]at hk;obtain⟨c,rfl,e⟩:=(B4 hs a).1 f;refine⟨c,?_,e⟩;have h:=hc 0 (by simp);simp only[i9,List.getElem_cons_zero]at h;have b:(isAgg T).run P w=.ok false w:=by
   cases hu:P.underlying T with
   |none=>simp[hu]at hk
   |some d=>
    cases d<;>simp only[hu]at hk<;>first
     |(simp[isAgg,dk hu];done)
     |(split at hk<;>simp at hk)
  simp[loadVar,b,h]
 |agg u=>
  rw[hs]at hk;have e:=(LH hs a).1 f;refine⟨.agg a.toArray,?_,e⟩;have b:(isAgg T).run P w=.ok true w/\P.cellsOf T=a.length:=by
   rw[o,hs];cases hu:P.underlying T with
   |none=>simp[hu]at hk
   |some d=>
    cases d<;>simp only[hu]at hk<;>first
     |(split at hk
       ·rename_i hc;simp at hk;subst hk;simp at hc;refine⟨by simp[isAgg,dk hu],hc.2⟩
       ·simp at hk)
     |(split at hk<;>simp at hk)
  obtain⟨i,hi⟩:∃i,P.info? T=some i:=by
   cases hi:P.info? T with
   |none=>
    have l:=b.1;simp[isAgg,underlying,hm,hi]at l
   |some i=>exact⟨i,rfl⟩
  have q:(sizeOf T).run P w=.ok a.length w:=by
   rw[<-b.2];simp[sizeOf,typeInfo,hi,hl]
  have p:=run_loadCells_list (P:=P) w ⟨an,off,none⟩ a (fun j x hx=>by
   rw[m];have k:j<a.length:=(hE.1 hx).1;rw[hc j k];rw[hP k]at hx;exact hx)
  simp[loadVar,b.1,q,p]
theorem UK{n:Nat}{ah ad:Nat->Prop}{β:Bd}{s:St}{t:Array dl}{w:ea}(h:cK P n ah ad β s t w){g:ee}{v:AV}(c:o6 P s g=some v):
 ∃e,(match g with
  | .tmp x=>(pure (t.getD x undef):Sem dl)
  | .cell a T=>do loadVar T (<-asAddr (t.getD a undef))).run P w=.ok e w/\aA P w ad β s.heap v e/\aE (aJ s.heap) v:=by
 cases g with
 |tmp x=>
  simp[o6]at c;subst c;exact⟨_,rfl,h.env x,h.gz x⟩
 |cell a T=>
  simp only[o6]at c;have d:=h.env a
  split at c
  case h_2=>simp at c
  rename_i b B k;rw[k]at d
  split at c
  case h_2=>simp at c
  rename_i fz r f
  split at c
  case h_2=>simp at c
  rename_i v' hs
  split at c
  case isFalse=>simp at c
  rename_i hc;simp at c;subst c;simp only[aA]at d;obtain⟨_,d⟩:=d;simp only[bR]at d;obtain⟨y,q,o,p,m,d⟩:=d;obtain⟨rfl,rfl⟩:=d (.inl ⟨fz,r,f⟩);obtain⟨cs,u,i,j,z,A⟩:=h.heap.cJ b _ f;obtain⟨pre,xs,post,e1,e2,e3,_⟩:=oQ j hs m;have l:gK w (β.an b) q xs:=by rw[<-e2];exact lF i e1
  obtain⟨e,k1,k2⟩:=GP hc e3 l;refine⟨e,?_,k2,uJ hs (h.heap.refs b _ f)⟩;simp only[p,asAddr];simp[k1]
theorem GS{n:Nat}{ah ad:Nat->Prop}{β:Bd}{s:St}{t:Array dl}{w:ea}(h:cK P n ah ad β s t w):∀{d:List ee}{vs:List AV},fC P s d=some vs->
 ∃c:List dl,(d.mapM (fun i:ee=>match i with
  | .tmp x=>(pure (t.getD x undef):Sem dl)
  | .cell a T=>do loadVar T (<-asAddr (t.getD a undef)))).run P w=.ok c w/\bF P w ad β s.heap vs c/\aX (aJ s.heap) vs
 |[],vs,b=>by
  simp[fC]at b;subst b;exact⟨[],by simp,by simp[bF],by simp[aX]⟩
 |r::d,vs,b=>by
  simp only[fC]at b
  split at b
  case h_2=>simp at b
  rename_i v j f g;simp at b;subst b;obtain⟨e,k1,k2,k3⟩:=UK h f;obtain⟨c,g1,g2,g3⟩:=GS h g;refine⟨e::c,?_,by simp only[bF];exact⟨e,c,rfl,k2,g2⟩,by simp only[aX];exact⟨k3,g3⟩⟩;simp only[i1,hr,k1,hp,g1];rfl
theorem Ik{w:ea}{ad:Nat->Prop}{β:Bd}{H:aj}{vs:List AV}{a:List dl}(h:bF P w ad β H vs a)(d:aX (aJ H) vs):
 aA P w ad β H (oneOf vs) (if h:a.toArray.size=1 then a.toArray[0]else .tuple a.toArray)/\aE (aJ H) (oneOf vs):=by
 have b:=(sG h).1
 match vs,a,h with
 |[v],[c],h=>
  simp only[bF]at h;obtain⟨y,j,g,e,i⟩:=h;cases g;simp only[aX]at d;exact⟨by simpa[oneOf]using e,by simpa[oneOf]using d.1⟩
 |[],[],h=>exact⟨by simp[oneOf,eE,aA,aD,bJ],by simp[oneOf,eE,aE]⟩
 |v1::v2::vs,c1::c2::a,h=>
  have hs:¬(c1::c2::a).toArray.size=1:=by simp
  rw[dif_neg hs];simp only[oneOf];cases f:eE (v1::v2::vs)with
  |none=>exact⟨by simp only[aA];exact⟨_,h,rfl⟩,by simpa only[aE]using d⟩
  |some l=>
   have:=lK f;rw[this]at h;exact⟨by simp only[aA,aD];exact⟨_,jq.1 h,rfl⟩,by simp[aE]⟩
 |[],_::_,_=>simp at b
 |[_],[],_=>simp at b
 |[_],_::_::_,_=>simp at b
 |_::_::_,[],_=>simp at b
 |_::_::_,[_],_=>simp at b
theorem takes{fr:e8}{cs:List e8}(c:fr.mode= .returning):∀(a:List Nat)(w:ea),a.Nodup->(∀r∈a,w.heap[r]?=some (.deferred (some [])))->
 ∃w',e7 P (lone {fr with defers:=a.map mark} cs w) (lone {fr with defers:=[]} cs w')/\w'.heap.size=w.heap.size/\(∀k,k∉a->w'.heap[k]?=w.heap[k]?)/\(w'.os=w.os/\w'.output=w.output)
 |[],w,_,_=>⟨w,Steps.refl _ _,rfl,fun _ _=>rfl,rfl,rfl⟩
 |r::a,w,b,h=>by
  rw[List.nodup_cons]at b;have f:=h r (by simp);have hk:=run_takeDeferred (P:=P) f;have m:=(Array.getElem?_eq_some_iff.1 f).1;obtain⟨w',g,i,j,l⟩:=takes c a (w.putObj r (.deferred none)) b.2 (fun x hx=>(World.putObj_heap_other (fun(e:x=r)=>b.1 (e▸hx))).trans (h x (by simp[hx])));refine⟨w',(hA (step_collected (fr:={fr with defers:=(r::a).map mark}) (d:=mark r) (ds:=a.map mark) (by simp[c]) rfl rfl hk)).trans g,by simpa using i,fun k hk=>?_,l⟩;simp only[hU,not_or]at hk;exact(j k hk.2).trans (World.putObj_heap_other hk.1)
theorem Hf{N:Nat}{f:em}{fn:Func}{c:Code}(z:lC P ag)(y:sv P ag fit)(hf:P.funcs[f]?=some fn)(F:fn.body=some c)(M:codeOk fit fn.ntmps c=true)
 {args:List AV}{H:aj}{R:List AV->St->Prop}(K:args.length<=fn.ntmps)
 (T:cd P ag (fn.ntmps,N) c (fun e s=>(match e with
  | .exit _=>False
  |_=>True)/\∃vs,fC P s fn.results.toList=some vs/\R vs s) ⟨iG 0 args,H⟩)
 {w:ea}{ad ah:Nat->Prop}{β:Bd}{d:List dl}(i:bU P w ad β H ah)(q:bF P w ad β H args d)(O:aX (aJ H) args):
 Calls P f d.toArray w fun e w'=>∃vs s a aF aK t,e=.returned (if h:a.toArray.size=1 then a.toArray[0]else .tuple a.toArray)/\R vs s/\cK P fn.ntmps ah aF aK s t w'/\dI N ah ad w β H ah aF w' aK s.heap/\
  bF P w' aF aK s.heap vs a/\aX (aJ s.heap) vs:=by
 intro cs;have X:=(sG q).1;obtain⟨g,j⟩:∃g:e8,g={fn:=f,tmps:=#[],todo:=[],defers:=[],mode:=.run,kind:=.normal}:=⟨_,rfl⟩
 have G:Frame.enter P f d.toArray .normal=bB g (d.toArray++cc (fn.ntmps-d.length) undef) [] [.code c]:=by
  subst j;simp[Frame.enter,bB,hf,F]
 obtain⟨e,s,V,aF,aK,t,w1,W,⟨A,vs,B,C⟩,o,m,b,D⟩:=ml (fr:=g) (cs:=cs) (ds:=[]) z y c [] M T (UZ i q O K) (fun l I=>by subst j;cases I);obtain⟨rs,u,L,n,Y,_⟩:=D;rw[hS]at u;subst u;rw[G]
 have p:∀todo,e7 P (lone (bB g (d.toArray++cc (fn.ntmps-d.length) undef) [] [.code c]) cs w) (lone {bB g t (rs.map mark) todo with mode:= .returning} cs w1)->
  ∃e w' fr,(∃vs s a aF aK t,e=.returned (if h:a.toArray.size=1 then a.toArray[0]else .tuple a.toArray)/\R vs s/\cK P fn.ntmps ah aF aK s t w'/\dI N ah ad w β H ah aF w' aK s.heap/\
   bF P w' aF aK s.heap vs a/\aX (aJ s.heap) vs)/\Comes P (lone (bB g (d.toArray++cc (fn.ntmps-d.length) undef) [] [.code c]) cs w) (lone fr cs w') e/\fr.fn=f/\fr.leaving P w' e:=by
  intro todo aN;obtain⟨w',t1,t2,t3,t4⟩:=takes (P:=P) (fr:={bB g t (rs.map mark) todo with mode:=.returning}) (cs:=cs) rfl rs w1 L (fun r i=>(n r i).2.2.2);have S:∀k,aF k->w'.heap[k]?=w1.heap[k]?:=fun k hk=>t3 k (fun i=>(n k i).2.2.1 hk);have v:cK P fn.ntmps ah aF aK s t w':=⟨m.heap.shut b.dU (R:=fun k=>k∈rs) (fun x hx=>⟨(n x hx).2.1,(n x hx).2.2.1⟩) t2 t3,fun x=>aA.mono (fun _ x=>x) S (cw.refl _ _) _ _ (m.gz x) (m.env x),m.gz,m.size⟩
  have E:dI N ah ad w β H ah aF w' aK s.heap:=⟨fun _ x=>x,b.bQ,b.fresh,⟨by rw[t2];exact b.ext.size,fun k hk=>(t3 k (fun J=>by
   have:=(n k J).1;have:=hk.elim (i.dU k) (i.bQ k);omega)).trans (b.ext.same k hk),t4.1.trans b.ext.io.1,t4.2.trans b.ext.io.2⟩,b.step,b.eP,b.loop⟩
  obtain⟨a,g1,g2,g3⟩:=GS v B;have Q:(results fn t).run P w'=.ok (if h:a.toArray.size=1 then a.toArray[0]else .tuple a.toArray) w':=by
   simp only[results];rw[cv];rw[hr,hv]
   erw [g1]
   rfl
  refine⟨_,w',{bB g t [] todo with mode:=.returning},⟨vs,s,a,aF,aK,t,rfl,C,v,E,g2,g3⟩,hz aN t1,by subst j;rfl,?_⟩;subst j;exact⟨rfl,rfl,rfl,fn,hf,Q⟩
 cases e with
 |exit id=>exact A.elim
 |normal=>
  exact p [] (hz o (.one (ew (by subst j;simp[stepG,stepG.exec,bB]))))
 |ret=>
  obtain⟨U,o⟩:=o;exact p (.code .ret::U) (hz o (.one (ew (by subst j;simp[stepG,stepG.exec,bB]))))
theorem JP{f:em}{fn:Func}{c:Code}(n:lC P ag)(m:sv P ag fit)(A:Enters P f)(hf:P.funcs[f]?=some fn)(z:fn.body=some c)(E:codeOk fit fn.ntmps c=true)
 {args:List PV}{v:PV}(D:args.length<=fn.ntmps)
 (I:cd P ag (fn.ntmps,0) c (fun e s=>(match e with
  | .exit _=>False
  |_=>True)/\∃vs,fC P s fn.results.toList=some vs/\et s.heap 9 (oneOf vs)=some v) ⟨iG 0 (args.map .p),[]⟩):rp P f args v:=by
 refine⟨A,fun w ad J C B y=>?_⟩;have F:bU P w ad ⟨id,id⟩ [] (fun k=>k<w.heap.size):=⟨by simp,by simp,by simp,C,fun _ h=>h,B⟩
 refine(Hf n m hf z E (R:=fun vs s=>et s.heap 9 (oneOf vs)=some v) (by simpa using D) I F (jq.2 y) (iO _ _)).mono ?_;rintro e w' ⟨vs,s,K,aF,aK,t,rfl,x,hs,d,G,H⟩;obtain⟨q,r⟩:=Ik G H;have u:=xo hs.heap _ _ _ x r _ q;refine⟨_,Dh aF aK s.heap,rfl,fun k hk=>.inl (d.bQ k hk),?_,?_,d.ext.size,fun k hk=>d.ext.same k (.inl hk),d.ext.io,u⟩
 ·rintro k (hk|⟨b,o,j,g,rfl⟩)
  ·rcases d.fresh k hk with h|h
   ·exact .inl h
   ·exact .inr (by omega)
  ·by_cases l:aK.an b<w.heap.size
   ·
    left;have a:=hs.heap.cJ b o j;have:aF (aK.an b)\/¬(aK.an b<w.heap.size):=by
     have key:∀fz,cG aF aK (fun k=>k<w.heap.size) fz b->aF (aK.an b)\/¬(aK.an b<w.heap.size):=fun fz h=>by
      cases fz with
      |true=>exact .inl h
      |false=>exact .inr h.2
     cases o with
     |hole=>exact g.elim
     |dead=>exact g.elim
     |box fz t=>obtain⟨_,_,_,_,h,_⟩:=a;exact key _ h
     |arr k az ai es=>
      rcases a with a|⟨_,_,_,_,_,_,_,_,_,_,h,_⟩
      ·exact(g a).elim
      ·exact key _ h
     |map fz es=>obtain⟨_,_,_,_,h⟩:=a;exact key _ h
     |du s pos=>obtain⟨_,_,_,h⟩:=a;exact key _ h
     |loop L=>obtain⟨_,_,_,_,_,_,h⟩:=a;exact key _ h
    rcases this with h|h
    ·rcases d.fresh _ h with i|i
     ·exact i
     ·exact(i l).elim
    ·exact(h l).elim
   ·exact .inr (by omega)
 ·rintro k (hk|⟨b,o,j,g,rfl⟩)
  ·exact hs.heap.bQ k hk
  ·exact hs.heap.mr j g
def tv(P:eb)(a:List ee)(N:Nat)(H':aj)(v:AV)(e:bu)(s:St):Prop:=
 (match e with
  | .exit _=>False
  |_=>True)/\∃vs,fC P s a=some vs/\oneOf vs=v/\(H'=s.heap\/(dc N s ⟨[],H'⟩/\aE (aJ H') v))
theorem Wu{f:em}{fn:Func}{c:Code}(q:lC P ag)(p:sv P ag fit)(u:Enters P f)(hf:P.funcs[f]?=some fn)(j:fn.body=some c)(A:codeOk fit fn.ntmps c=true)
 {args:List AV}{H H':aj}{v:AV}(z:args.length<=fn.ntmps)(G:cd P ag (fn.ntmps,H.length) c (tv P fn.results.toList H.length H' v) ⟨iG 0 args,H⟩):cE P f H args H' v:=by
 refine⟨u,fun w ad ah β I B r C=>?_⟩;refine(Hf q p hf j A (R:=fun vs s=>oneOf vs=v/\(H'=s.heap\/(dc H.length s ⟨[],H'⟩/\aE (aJ H') v))) z G B r C).mono ?_;rintro e w' ⟨vs,s,g,aF,aK,t,rfl,⟨rfl,a⟩,hs,m,F,E⟩;obtain⟨i,k⟩:=Ik F E;obtain⟨d,k1,k2,k3⟩:dI H.length ah ad w β H ah aF w' aK H'/\bU P w' aF aK H' ah/\aA P w' aF aK H' (oneOf vs) (if h:g.toArray.size=1 then g.toArray[0]else .tuple g.toArray)/\aE (aJ H') (oneOf vs):=by
  rcases a with rfl|⟨a,D⟩
  ·exact⟨m,hs.heap,i,k⟩
  ·refine⟨m.trans (a.eZ (β:=aK) (ah:=ah) (ad:=aF) (w:=w')),(a.rel hs).heap,?_,D⟩;rcases a with a|a
   ·have e:H'=s.heap:=by rw[<-a]
    rw[e];exact i
   ·exact aA.mono (fun _ x=>x) (fun _ _=>rfl) a.1.step _ _ k i
 refine⟨_,aK,aF,rfl,⟨d.bQ,d.fresh,d.ext,d.step.full,k1,fun x hx=>?_,fun b j=>?_⟩,k2,k3⟩
 ·obtain⟨o,n,y⟩:=hx;exact d.eP x (hE.1 n).1 ⟨o,n,y⟩
 ·obtain⟨L,l⟩:=j;exact d.loop b (hE.1 l).1 ⟨L,l⟩
theorem cK.post{n:Nat}{ah ad aF:Nat->Prop}{β aK:Bd}{s:St}{H':aj}{t:Array dl}{w w':ea}(h:cK P n ah ad β s t w)(a:bY P ah ad w β s.heap aF w' aK H'):cK P n ah aF aK ⟨s.env,H'⟩ t w':=
 ⟨a.rel,fun x=>aA.mono a.bQ (fun k hk=>a.ext.same k (.inr hk)) a.step _ _ (h.gz x) (h.env x),fun x=>aE.mono a.eP _ (h.gz x),h.size⟩
def qG:List Tmp->List AV->Env->Env
 |t::ts,v::vs,e=>qG ts vs ((t,v)::e)
 |_,_,e=>e
def gN:bu->Option Code
 | .normal=>none
 | .exit id=>some (.exit id)
 | .ret=>some .ret
def sy(b:Nat)(K:aj->AV->Prop)(e:bu)(s:St):Prop:=
 match s.heap[b]? with
 |some (.loop L)=>K (s.heap.set b (.loop {L with st:=if(gN e).isNone then .ready else .done,pending:=gN e})) (.p (.bool (gN e).isNone))
 |_=>False
def xn(P:eb)(ag:em->Bool)(q:Cx)(b:Nat)(body:Code)(K:aj->AV->Prop)(e:bu)(s:St):Prop:=
 match e,s.heap[b]? with
 | .normal,some (.loop L)=>L.st=.ready/\cd P ag q body (sy b K) ⟨s.env,s.heap.set b (.loop {L with st:=.busy})⟩
 |_,_=>False
def yf(P:eb)(ag:em->Bool)(L:dP)(b:Nat)(args:List AV)(H:aj)(K:aj->AV->Prop):Prop:=
 cd P ag (L.n,H.length) L.assign (xn P ag (L.n,H.length) b L.body K) ⟨qG L.params args L.env,H⟩
def qt(ts:List Tmp)(a:List dl)(t:Array dl):Array dl:=(ts.zip a).foldl (fun t(p,v)=>t.setIfInBounds p v) t
theorem HR{w:ea}{ad:Nat->Prop}{β:Bd}{H:aj}:∀{ts:List Tmp}{vs:List AV}{xs:List dl}{e:Env}{t:Array dl},(∀x∈ts,x<t.size)->bF P w ad β H vs xs->aX (aJ H) vs->(∀x,aA P w ad β H (aQ e x) (t.getD x undef))->(∀x,aE (aJ H) (aQ e x))->
 (qt ts xs t).size=t.size/\(∀x,aA P w ad β H (aQ (qG ts vs e) x) ((qt ts xs t).getD x undef))/\(∀x,aE (aJ H) (aQ (qG ts vs e) x))
 |[],vs,xs,e,t,_,a,_,b,c=>by
  cases vs<;>exact⟨rfl,b,c⟩
 |p::ts,[],xs,e,t,_,a,_,b,c=>by
  simp only[bF]at a;subst a;exact⟨rfl,b,c⟩
 |p::ts,v::vs,xs,e,t,f,a,d,b,c=>by
  simp only[bF]at a;obtain⟨y,h,rfl,k1,k2⟩:=a;simp only[aX]at d;have g:p<t.size:=f p (by simp);obtain⟨g1,g2,g3⟩:=HR (ts:=ts) (vs:=vs) (xs:=h) (e:=(p,v)::e) (t:=t.setIfInBounds p y) (fun x hx=>by simpa using f x (by simp[hx])) k2 d.2
   (fun x=>by
    simp only[aQ]
    by_cases hx:x=p
    ·subst hx;simp[g];exact k1
    ·simp only[hx,if_false,ck,Array.getElem?_setIfInBounds_ne (Ne.symm hx)];simpa using b x)
   (fun x=>by
    simp only[aQ]
    split
    ·exact d.1
    ·exact c x)
  exact⟨by simpa[qt]using g1,g2,g3⟩
theorem zip_toArray(a:List Tmp)(b:List dl)(t:Array dl):(a.toArray.zip b.toArray).foldl (fun t(p,v)=>t.setIfInBounds p v) t=qt a b t:=by
 unfold qt;rw[<-c9];simp
theorem Ws(I:lC P ag)(G:sv P ag fit){b:Nat}{L:dP}{H H':aj}{args:List AV}{v:AV}(f:H[b]?=some (.loop L))(aB:args.length=L.params.length)(aC:∀x∈L.params,x<L.n)
 (ar:codeOk fit L.n L.assign=true)(hc:codeOk fit L.n L.body=true)(aJ:yf P ag L b args H (fun af aT=>aT=v/\dc H.length ⟨[],af⟩ ⟨[],H'⟩)):fh P b H args H' v:=by
 refine⟨⟨L,f⟩,fun w ad ah β i B W av=>?_⟩;obtain⟨tmps,defers,fn,ap,M,aq,aX⟩:=B.cJ b _ f;have s:b<H.length:=(hE.1 f).1;have ax:=(sG W).1;have j:=run_yield (P:=P) (args:=i.toArray) ap (by simp[ax,aB]);obtain⟨q1,aO,aP⟩:=HR (ts:=L.params) (vs:=args) (xs:=i) (e:=L.env) (t:=tmps) (fun x hx=>by rw[M];exact aC x hx) W av aq (B.refs b _ f);rw[zip_toArray]at j;refine⟨fn,_,_,_,j,fun K ae=>?_⟩;obtain⟨c,z⟩:∃c:e8,c={fn:=fn,tmps:=#[],todo:=[],defers:=[],mode:=.run,kind:=.normal,roundOf:=some (β.an b)}:=⟨_,rfl⟩
 have g:c.roundOf=some (β.an b):=by subst z;rfl
 have A:c.kind=.normal:=by subst z;rfl
 have ay:Frame.round (β.an b) fn (qt L.params i tmps) L.assign L.body .normal=bB c (qt L.params i tmps) [] [.code L.assign,.beginRound,.code L.body]:=by subst z;rfl
 have V:qN H.length c β H:=fun l Z=>by
  rw[g]at Z;cases Z;exact⟨b,s,⟨L,f⟩,rfl⟩
 obtain⟨e1,s1,aW,aV,aU,t1,w1,an,g1,g2,g3,g4,g5⟩:=ml (N:=H.length) (fr:=c) (cs:=K::ae) (ds:=[]) I G L.assign [.beginRound,.code L.body] ar aJ ⟨B,aO,aP,q1.trans M⟩ V;unfold xn at g1
 split at g1
 case h_2=>exact g1.elim
 rename_i q Q;obtain⟨g1,g6⟩:=g1;obtain⟨bc,m1,_,_,m4,m5⟩:=g5;have aH:=m5 (by rw[g];rfl);subst aH;obtain rfl:an=[]:=m1;have al:aU.an b=β.an b:=(g4.step.loop b s ⟨_,f,trivial⟩ ⟨q,Q⟩).2;obtain⟨rec,ac,aR,aS,a7,a8,a9,ba,bb,D⟩:=Ca g3.heap Q .busy q.pending;rw[al]at ac D;have X:=run_beginRound (P:=P) ac (aR.trans g1);have aw:({rec with state:=.busy}:Loop)={rec with state:=.busy,pending:=q.pending}:=by rw[<-aS]
 rw[aw]at X;have T:=g4.trans (D.eZ (N:=H.length));obtain⟨e2,s2,r,p,m,t2,F,ao,k1,k2,k3,k4,k5⟩:=ml (N:=H.length) (fr:=c) (cs:=K::ae) (ds:=[]) I G L.body [] hc g6 (g3.post D) (V.eZ T);unfold sy at k1
 split at k1
 case h_2=>exact k1.elim
 rename_i J S;obtain⟨rfl,Y⟩:=k1;obtain⟨bd,aL,_,_,aM,aN⟩:=k5;have aI:=aN (by rw[g];rfl);subst aI;obtain rfl:ao=[]:=aL;have aY:∀k,r k->ah k:=fun k hk=>(m4 k ((aM k hk).resolve_right (by simp))).resolve_right (by simp);have U:=T.trans k4;have am:m.an b=β.an b:=(U.step.loop b s ⟨_,f,trivial⟩ ⟨J,S⟩).2;obtain⟨E,ab,aZ,a0,a1,a3,a4,a5,a6,C⟩:=Ca k3.heap S (if(gN e2).isNone then .ready else .done) (gN e2);rw[am]at ab C;have u:=run_endRound (P:=P) (gN e2) ab;have au:=U.trans (C.eZ (N:=H.length));have d:=au.trans (Y.eZ (β:=m) (ah:=r) (ad:=p) (w:=F.putObj (β.an b) (.loop {E with state:=if(gN e2).isNone then .ready else .done,pending:=gN e2})));refine⟨.bool (gN e2).isNone,F.putObj (β.an b) (.loop {E with state:=if(gN e2).isNone then .ready else .done,pending:=gN e2}),m,p,?_,?_,by simp[aA,aD],by simp[aE]⟩
 ·rw[ay];refine hz (g2:e7 P _ _) ((hA (stepR_beginRound (b:=c) (a:=⟨t1,[]⟩) g X)).trans ?_);cases e2 with
  |normal=>exact hz (k2:e7 P _ _) (.one (stepR_round_end (b:=c) (a:=⟨t2,[]⟩) g A u))
  |exit id=>
   obtain⟨aK,ak,a2⟩:=k2;exact hz a2 (.one (stepR_round_exit (b:=c) (a:=⟨t2,[]⟩) g A (by rw[ak];rfl) u))
  |ret=>
   obtain⟨aK,a2⟩:=k2;exact hz a2 (.one (stepR_round_ret (b:=c) (a:=⟨t2,[]⟩) g A u))
 ·have aF:cK P 0 r p m ⟨[],s2.heap.set b (.loop {J with st:=if(gN e2).isNone then .ready else .done,pending:=gN e2})⟩ #[] (F.putObj (β.an b) (.loop {E with state:=if(gN e2).isNone then .ready else .done,pending:=gN e2})):=
   ⟨C.rel,fun x=>by simp[aQ,aA,aD],fun x=>by simp[aQ,aE],rfl⟩
  have aG:=(Y.rel aF).heap;refine⟨d.bQ,d.fresh,d.ext,d.step.full,aG.shut d.dU (R:=fun _=>False) (fun _ h=>h.elim) rfl (fun _ _=>rfl),fun x hx=>?_,fun y j=>?_⟩
  ·obtain⟨o,aa,az⟩:=hx;exact d.eP x (hE.1 aa).1 ⟨o,aa,az⟩
  ·obtain⟨ai,O⟩:=j;exact d.loop y (hE.1 O).1 ⟨ai,O⟩
end
section
variable{P:eb}
theorem Ku{w:ea}{ad:Nat->Prop}{b:Bool}{v:dl}:aD P w ad (.bool b) v↔v=.bool b:=by simp[aD]
theorem CL{w:ea}{ad:Nat->Prop}{k:eq}{n:Int}{v:dl}:aD P w ad (.int k n) v↔v=.int k n:=by simp[aD]
theorem LD{w:ea}{ad:Nat->Prop}{s:List Nat}{v:dl}:aD P w ad (.str s) v↔∃bs:ByteArray,v=.string bs/\s=bs.data.toList.map (·.toNat):=by simp[aD]
theorem eL{s:Sem dl}{w:ea}{a:dl}(h:s.run P w=.ok a w):(do pure (Next.value (<-s)):Sem Next).run P w=.ok (.value a) w:=by simp[h]
theorem ug{s:Sem dl}{w w':ea}{a:dl}(h:s.run P w=.ok a w'):(do pure (Next.value (<-s)):Sem Next).run P w=.ok (.value a) w':=by simp[h]
theorem w8{T:dq}{v:AV}{w:ea}{ad:Nat->Prop}{β:Bd}{H:aj}{cs:List dl}(hk:kindOf P T=aa v)(d:br P w ad β H v cs):P.cellsOf T=cs.length/\∃i,P.info? T=some i/\i.size=cs.length:=by
 obtain⟨c,a⟩:=nt d;have b:P.cellsOf T=cs.length:=by
  rw[c,<-hk];unfold kindOf at hk⊢
  split at hk
  ·split at hk<;>rename_i hc
   ·simp at hc;rw[if_pos (by simpa using hc)];simp[bD,hc.2]
   ·exact(a hk.symm).elim
  ·split at hk<;>rename_i hc
   ·simp at hc;rw[if_pos (by simpa using hc)];simp[bD,hc]
   ·exact(a hk.symm).elim
  ·split at hk<;>rename_i hc
   ·simp at hc;rw[if_pos (by simpa using hc)];simp[bD,hc]
   ·exact(a hk.symm).elim
  ·exact(a hk.symm).elim
 refine⟨b,?_⟩;cases hi:P.info? T with
 |none=>
  have:kindOf P T=.bad:=by simp[kindOf,hm,hi]
  rw[this]at hk;exact(a hk.symm).elim
 |some i=>exact⟨i,rfl,by simpa[hl,hi]using b⟩
variable{o:Oper}{ρ:dp->AV}{base:Nat}
theorem P5{x:dp}(a:o.op=.move x\/o.op=.assign x):bw P o ρ base {v:=ρ x}:=by
 refine bw.same fun H w ad ah β c d b _=>?_;refine⟨c x,?_,b x ?_⟩
 ·rcases a with a|a<;>simp[dz,a]
 ·rcases a with a|a<;>simp[a,g8]
theorem aHt{c a b:dp}{t:Bool}(d:o.op=.pick c a b)(hc:ρ c=.p (.bool t)):bw P o ρ base {v:=if t then ρ a else ρ b}:=by
 refine bw.same fun H w ad ah β g h f _=>?_;have e:=(f c (by simp[d,g8])).1;rw[hc]at e;simp only[aA,Ku]at e;refine⟨if t then g a else g b,by simp[dz,d,e,asBool],?_⟩;cases t with
 |true=>exact f a (by simp[d,g8])
 |false=>exact f b (by simp[d,g8])
theorem HW{t:dp}{i:Nat}{vs:List AV}{v:AV}(g:o.op=.extract t i)(e:ρ t=.aC vs\/∃l,ρ t=.p (.aC l)/\vs=l.map .p)(hi:vs[i]?=some v):bw P o ρ base {v}:=by
 refine bw.same fun H w ad ah β j m h _=>?_;obtain⟨d,f⟩:=h t (by simp[g,g8]);obtain⟨c,k1,k2,k3⟩:∃c,bF P w ad β H vs c/\j t=.tuple c.toArray/\aX (aJ H) vs:=by
  rcases e with e|⟨l,e,rfl⟩
  ·rw[e]at d f;simp only[aA,aE]at d f;obtain⟨c,a,b⟩:=d;exact⟨c,a,b,f⟩
  ·rw[e]at d;simp only[aA,aD]at d;obtain⟨c,a,b⟩:=d;exact⟨c,jq.2 a,b,iO _ _⟩
 obtain⟨g1,g2⟩:=sG k1;have k:i<vs.length:=(hE.1 hi).1;have hx:c[i]?=some (c[i]'(by omega)):=hP (by omega);have g3:=g2 i;rw[hi,hx]at g3;refine⟨c[i]'(by omega),?_,by simpa using g3,cV.1 k3 v (hX hi)⟩;simp only[dz,g,Instr.extract,k2];simp[hx]
theorem aHp{c:fb}{T j:dq}{x y:dp}{k d:eq}{a b:Int}{K:PV->Prop}(g:o.op= .binOp c T x y j)(hx:ρ x= .p (.int k a))(t:ρ y= .p (.int d b))(hk:k=d\/c= .shl\/c= .shr)
 (h:pf c k a b K)(al:List (Nat×Obj)):∃v,K v/\bw P o ρ base {v:=.p v,al}:=by
 have key:∀v,K v->(∀w:ea,(binOp c T (.int k a) (.int d b)).run P w= .ok (match v with| .int k n=> .int k n| .bool b=> .bool b|_=>undef) w)->(∀w ad,aD P w ad v (match v with| .int k n=> .int k n| .bool b=> .bool b|_=>undef))->
  ∃v,K v/\bw P o ρ base {v:=.p v,al}:=by
  intro v s r q;refine⟨v,s,bw.same fun H w ad ah β z u i _=>?_⟩;have e:=(i x (by simp[g,g8])).1;have f:=(i y (by simp[g,g8])).1;rw[hx]at e;rw[t]at f;simp only[aA,CL]at e f;refine⟨_,?_,by simp only[aA];exact q w ad,by simp[aE]⟩;simp only[dz,g,e,f];refine eL ?_;have m:(eqGuard c T x y (.int k a) (.int d b)).run P w=.ok () w:=by
   unfold eqGuard
   split<;>simp
  simp[m,r w]
 cases c<;>simp only[pf]at h
 case add|sub|mul|and|or|xor|andNot|eql|neq|lss|leq|gtr|geq=>
  obtain rfl:k=d:=by rcases hk with h|h|h<;>first|exact h|cases h
  exact key _ h (fun w=>by simp[binOp,hh,hj,Op.intCmp]) (fun w ad=>by simp[aD])
 case quo|rem=>
  obtain rfl:k=d:=by rcases hk with h|h|h<;>first|exact h|cases h
  exact key _ h.2 (fun w=>by simp[binOp,Op.intDiv,h.1]) (fun w ad=>by simp[aD])
 case shl|shr=>
  have l:¬b<0:=by omega
  exact key _ h.2 (fun w=>by simp[binOp,Op.shift,l]) (fun w ad=>by simp[aD])
theorem DW{u:UnOp}{T:dq}{x:dp}{v r:PV}(c:o.op= .unOp u T x)(hx:ρ x= .p v)
 (h:(u=.not/\∃b,v=.bool b/\r=.bool (!b))\/(u=.neg/\∃k n,v=.int k n/\r=.int k (k.wrap (0-n)))\/
  (u=.xor/\∃k n,v=.int k n/\r=.int k (k.wrap (BitVec.ofInt k.bits (if k.signed then -1 else k.max)^^^BitVec.ofInt k.bits n).toNat))):bw P o ρ base {v:=.p r}:=by
 refine bw.same fun H w ad ah β f e d _=>?_;have a:=(d x (by simp[c,g8])).1;rw[hx]at a;simp only[aA]at a;rcases h with⟨rfl,b,rfl,rfl⟩|⟨rfl,k,n,rfl,rfl⟩|⟨rfl,k,n,rfl,rfl⟩
 ·rw[Ku]at a;exact⟨_,by simp only[dz,c,a];exact eL (by simp[he];rfl),by simp[aA,aD],by simp[aE]⟩
 ·rw[CL]at a;exact⟨_,by simp only[dz,c,a];exact eL (by simp[he,hh];rfl),by simp[aA,aD],by simp[aE]⟩
 ·rw[CL]at a;exact⟨_,by simp only[dz,c,a];exact eL (by simp[he,hj];rfl),by simp[aA,aD],by simp[aE]⟩
end
section
variable{P:eb}{w:ea}{ad ah:Nat->Prop}{β:Bd}{H:aj}
variable{o:Oper}{ρ:dp->AV}{base:Nat}
theorem lA(H:aj)(b:Nat)(o':Obj):bc H ([]++newAt b [o'])=H.set b o':=rfl
theorem Vp{x:AV}{T:dq}(hs:aa x≠ .bad)(hx:jf T (aa x)=true)(hrefs:∀(H:aj)(w:ea)(ad ah:Nat->Prop)(β:Bd)(d:dp->dl),bU P w ad β H ah->
 (∀y∈o.op.operands,aA P w ad β H (ρ y) (d y)/\aE (aJ H) (ρ y))->∃a,aA P w ad β H x a/\aE (aJ H) x/\
  (dz d o).run P w=.ok (.value (.pointer (some ⟨w.heap.size,0,none⟩))) {w with heap:=w.heap.push (.cells a.cells T)}):
 bw P o ρ base {v:=.ptr base [],aS:=[.box false x]}:=by
 intro H w ad ah β d b m _ j;obtain⟨a,f,e,g⟩:=hrefs H w ad ah β d b m;have c:H[base]?=some .hole:=by simpa using j 0 (by simp)
 have i:=xD f hs;have aN:=xP (β:=β) c (.box false x) w.heap.size 0;have al:∀y,aJ H y->aJ (H.set base (.box false x)) y:=lM c (fun _ h=>h.elim);have l:=sA (cap:=0) b c (ob:=.cells a.cells T) (o':=.box false x)
  ⟨a.cells,T,by simp[Bd.at],br.mono (fun _ x=>x) (fun k hk=>uv _ _ (b.bQ k hk)) aN _ _ e i,by
   simp only[cG,Bd.at,if_true,db,if_false];exact⟨fun h=>i6 _ (b.bQ _ h),fun h=>i6 _ (b.dU _ h)⟩,by simp,hx⟩ (aE.mono al _ e)
 refine⟨_,_,_,_,ad,g,.inl rfl,l,?_,?_⟩
 ·simp only[aA,bO,bR,lA];exact⟨rfl,_,_,0,rfl,rfl,fun _=>by simp[Bd.at]⟩
 ·simp only[aE,lA];exact⟨.box false x,by simp only;rw[hF (hE.1 c).1],trivial⟩
theorem aHm{T:dq}{x:dp}(a:o.op=.box T x)(hs:aa (ρ x)≠.bad)(hx:jf T (aa (ρ x))=true):bw P o ρ base {v:=.ptr base [],aS:=[.box false (ρ x)]}:=by
 refine Vp (T:=T) hs hx fun H w ad ah β e f d=>?_;obtain⟨b,c⟩:=d x (by simp[a,g8]);refine⟨e x,b,c,?_⟩;simp only[dz,a];simp[Instr.box,newVar,newRow]
theorem A0{w:ea}{ad:Nat->Prop}:∀(n:Nat)(T:dq)(cs:List dl)(t:PV),sX P n T cs=some t->aY P w ad t cs/\kindOf P T=aL t
 |0,_,_,_,h=>by simp[sX]at h
 |n+1,T,cs,t,h=>by
  have go:∀(b:List dq)(l:List Nat)(cs:List dl)(fs:List PV),oN P (sX P n) b l cs=some fs->∃a,bk P w ad l fs a/\a.flatten=cs:=by
   intro b
   induction b with
   |nil=>
    intro l cs fs h;cases l with
    |nil=>
     cases cs with
     |nil=>simp[oN]at h;subst h;exact⟨[],by simp[bk]⟩
     |cons c cs=>simp[oN]at h
    |cons s i=>simp[oN]at h
   |cons T b q=>
    intro l cs fs h;cases l with
    |nil=>simp[oN]at h
    |cons s i=>
     simp only[oN]at h
     split at h
     case isFalse=>simp at h
     rename_i m
     split at h
     case h_2=>simp at h
     rename_i v vs g p
     split at h
     case isFalse=>simp at h
     rename_i r;simp at h;subst h;obtain⟨e,_⟩:=A0 n T _ v g;obtain⟨a,f,j⟩:=q i _ vs p;refine⟨cs.take s::a,by simp only[bk];exact⟨_,_,rfl,e,m,f⟩,?_⟩;simp[j]
  unfold sX at h
  split at h
  ·rename_i hk
   split at h
   case h_2=>simp at h
   rename_i c
   split at h
   ·simp at h
   ·rename_i v o;simp at h;subst h;have g:=G1 (P:=P) (w:=w) (ad:=ad) c;have d:aL (ofConst c)=.leaf:=by
     unfold ofConst at o⊢
     split<;>simp_all [aL]
    exact⟨(sF d _).2 ⟨c,rfl,g⟩,by rw[hk,d]⟩
  ·rename_i u hk
   split at h
   case h_2=>simp at h
   rename_i l d
   split at h
   case h_2=>simp at h
   rename_i fs k;simp at h;subst h;obtain⟨a,e,f⟩:=go _ _ _ _ k;refine⟨by simp only[aY];exact⟨l,a,d,e,f.symm⟩,by simp[aL,hk]⟩
  ·simp at h
theorem pT{T:dq}{z:PV}(h:ct P T=some z):∃i a,P.info? T=some i/\i.zero=some a/\(∀(w:ea)(ad:Nat->Prop),aY P w ad z a.cells.toList)/\kindOf P T=aL z:=by
 unfold ct at h;cases hi:P.info? T with
 |none=>simp[hi]at h
 |some i=>
  simp only[hi,j7]at h;cases b:i.zero with
  |none=>simp[b]at h
  |some a=>
   simp only[b]at h
   split at h
   case isFalse=>simp at h
   exact⟨i,a,rfl,b,fun w ad=>(A0 40 T _ z h).1,(A0 (w:=default) (ad:=fun _=>True) 40 T _ z h).2⟩
theorem UU{T:dq}{z:PV}(h:ct P T=some z):∃a,(∀w:ea,(zeroValue T).run P w=.ok a w)/\∀(w:ea)(ad:Nat->Prop),aD P w ad z a:=by
 obtain⟨i,a,d,e,f,g⟩:=pT h;refine⟨a,fun w=>by simp[zeroValue,typeInfo,d,e],fun w ad=>?_⟩;have b:zk a (aL z)=true:=by
  unfold ct at h;simp only[d,j7,e]at h
  split at h
  ·rename_i j;rw[<-g];exact j
  ·simp at h
 have hc:=f w ad;cases hs:aL z with
 |bad=>exact((oG hc).2 hs).elim
 |leaf=>
  rw[hs]at b;obtain⟨c,k1,k2⟩:=(sF hs _).1 hc;cases a<;>simp[zk]at b<;>(simp[hD]at k1;subst k1;exact k2)
 |agg u=>
  rw[hs]at b;cases a<;>simp[zk]at b;have:=(u6 hs _).1 hc;simpa[hD]using this
theorem sx{T:dq}{i:ec}{a:dl}(h:P.info? T=some i)(b:i.zero=some a)(w:ea):(zeroValue T).run P w=.ok a w:=by
 simp[zeroValue,typeInfo,h,b]
theorem WG{T:dq}{z:PV}(j:o.op=.alloc T)(m:ct P T=some z)(hx:jf T (aL z)=true):bw P o ρ base {v:=.ptr base [],aS:=[.box false (.p z)]}:=by
 obtain⟨i,b,d,e,f,q⟩:=pT m;intro H w ad ah β n a r _ g;have c:H[base]?=some .hole:=by simpa using g 0 (by simp)
 have l:(dz n o).run P w=.ok (.value (.pointer (some ⟨w.heap.size,0,none⟩))) {w with heap:=w.heap.push (.cells b.cells T)}:=by
  simp only[dz,j];simp[Instr.alloc,sx d e,newVar,newRow]
 have k:=sA (cap:=0) a c (ob:=.cells b.cells T) (o':=.box false (.p z))
  ⟨b.cells,T,by simp[Bd.at],by simp only[br];exact f _ _,by
   simp only[cG,Bd.at,if_true,db,if_false];exact⟨fun h=>i6 _ (a.bQ _ h),fun h=>i6 _ (a.dU _ h)⟩,by simp,by simpa[aa]using hx⟩ (by simp[Obj.refs,aE])
 refine⟨_,_,_,_,ad,l,.inl rfl,k,?_,?_⟩
 ·simp only[aA,bO,bR,lA];exact⟨rfl,_,_,0,rfl,rfl,fun _=>by simp[Bd.at]⟩
 ·simp only[aE,lA];exact⟨.box false (.p z),by simp only;rw[hF (hE.1 c).1],trivial⟩
theorem Cr{T:dq}{a:dp}{v:AV}(h:o.op= .load T a){d:dp->dl}{an off:Nat}{c:List dl}(g:d a= .pointer (some ⟨an,off,none⟩))(hk:kindOf P T=aa v)
 (i:br P w ad β H v c)(hc:gK w an off c):∃b,(dz d o).run P w=.ok (.value b) w/\aA P w ad β H v b:=by
 obtain⟨b,e,f⟩:=GP hk i hc;refine⟨b,?_,f⟩;simp only[dz,h,Instr.loadAt,g,gm];simp[e]
theorem yS{ai:Nat}{d:List AV}{g:List (List dl)}(h:Row P w ad β H ai d g){i:Nat}(hi:i<d.length):
 ∃a c post,g.flatten=a++c++post/\a.length=i*ai/\c.length=ai/\br P w ad β H d[i] c/\
  ∀e c',br P w ad β H e c'->c'.length=c.length->∃b,b.flatten=a++c'++post/\Row P w ad β H ai (d.set i e) b:=by
 obtain⟨a,c,post,j,k,o,f,l,m⟩:=sM h (hP hi);have n:c.length=ai:=by
  rw[hQ]at f;rw[if_pos hi]at f;simpa using f.symm
 refine⟨a,c,post,j,?_,n,l,?_⟩
 ·rw[k,hK,i7 (by omega),hJ]
 ·intro e c' hf hc;obtain⟨b,k1,k2⟩:=m e c' hf hc;exact⟨b,k1,by unfold Row;rw[List.length_set];exact k2⟩
theorem aHr{T:dq}{a:dp}(g:o.op= .load T a){H0:aj}{K:aW->Prop}(h:nL P T H0 (ρ a) K):
 ∃e,K e/\bw P o ρ base e/\(∀p∈e.al,H0[p.1]?=some p.2)/\(∀p∈e.aM,p.1<H0.length/\p.2≠.hole):=by
 unfold nL at h
 split at h
 ·rename_i b J m
  split at h
  case h_2=>exact h.elim
  rename_i fz t u
  split at h
  case h_2=>exact h.elim
  rename_i s hs;obtain⟨hk,h⟩:=h;refine⟨_,h,bw.same fun H w ad ah β C j n al=>?_,by simpa using u,by simp⟩;obtain⟨d,y⟩:=n a (by simp[g,g8]);rw[m]at d;simp only[aA,bO,bR]at d;have f:H[b]?=some (.box fz t):=by simpa using al
  obtain⟨_,E,I,B,x,r,d⟩:=d;obtain⟨rfl,rfl⟩:=d (.inl ⟨fz,t,f⟩);obtain⟨cs,D,k1,k2,k3,k4⟩:=j.cJ b _ f;obtain⟨pre,xs,post,e1,e2,e3,_⟩:=oQ k2 hs r;obtain⟨l,g1,g2⟩:=Cr g x hk e3 (by rw[<-e2];exact lF k1 e1);exact⟨l,g1,g2,uJ hs (j.refs b _ f)⟩
 ·rename_i b az ai i J m
  split at h
  case h_2=>exact h.elim
  rename_i k W S q u;obtain⟨rfl,rfl,hi,h⟩:=h
  split at h
  case h_2=>exact h.elim
  rename_i s hs;obtain⟨hk,h⟩:=h;refine⟨_,h,bw.same fun H w ad ah β C j n al=>?_,by simpa using u,by simp⟩;obtain⟨d,y⟩:=n a (by simp[g,g8]);rw[m]at d;simp only[aA,bO,bR]at d;have f:H[b]?=some (.arr k az ai q):=by simpa using al
  have A:¬dd k q:=fun G=>by rw[G.2]at hi;simp at hi
  obtain⟨_,E,I,B,x,r,d⟩:=d;obtain⟨rfl,rfl⟩:=d k q f A;rcases j.cJ b _ f with hold|⟨cs,D,R,rest,k1,k2,k3,_⟩
  ·exact(A hold).elim
  obtain⟨M,c,L,N,O,U,Q,_⟩:=yS k2 hi;obtain⟨pre,xs,post,e1,e2,e3,_⟩:=oQ Q hs r;have F:gK w (β.an b) (i*ai+B) xs:=by
   have:cs.toList=(M++pre)++xs++(post++L++rest):=by rw[k3,N,e1];simp
   have z:=lF k1 this;rw[hH,O,e2]at z;exact z
  obtain⟨l,g1,g2⟩:=Cr g x hk e3 F;exact⟨l,g1,g2,uJ hs (cV.1 (j.refs b _ f) _ (ix hi))⟩
 ·rename_i t m;obtain⟨hk,h⟩:=h;refine⟨_,h,bw.same fun H w ad ah β C j n al=>?_,by simp,by simp⟩;obtain⟨d,y⟩:=n a (by simp[g,g8]);rw[m]at d;simp only[aA,aD]at d;obtain⟨an,off,V,k1,k2,k3,k4⟩:=d;obtain⟨l,g1,g2⟩:=Cr (β:=β) (H:=H) (v:=.p t) g k4 (by simpa[aa]using hk) (by simpa only[br]using k1) k3;exact⟨l,g1,g2,by simp[aE]⟩
 ·exact h.elim
end
section
variable{P:eb}{w:ea}{ad ah:Nat->Prop}{β:Bd}{H:aj}
mutual
theorem LF:∀{v:PV}{cs:List dl},aY P w ad v cs->∀c∈cs,c.oneCell'=true
 | .undef,_,h| .aC _,_,h=>by simp[aY]at h
 | .bool _,_,h| .int _ _,_,h| .dH,_,h| .aO,_,h| .fc,_,h| .gD,_,h| .gd,_,h=>by simp only[aY]at h;subst h;simp[hB]
 | .str _,_,h=>by simp only[aY]at h;obtain⟨_,rfl,_⟩:=h;simp[hB]
 | .cm _,_,h=>by simp only[aY]at h;obtain⟨_,_,_,_,_,_,rfl⟩:=h;simp[hB]
 | .cN _ _,_,h=>by simp only[aY]at h;obtain⟨_,_,_,_,_,_,_,_,_,_,_,_,rfl⟩:=h;simp[hB]
 | .seq _,_,h=>by simp only[aY]at h;rcases h with⟨_,rfl⟩|⟨_,_,_,_,_,_,_,_,_,_,_,rfl⟩<;>simp[hB]
 | .dT _,_,h=>by simp only[aY]at h;obtain⟨_,_,_,_,_,_,rfl⟩:=h;simp[hB]
 | .func _ _ _,_,h=>by simp only[aY]at h;obtain⟨_,_,_,_,rfl⟩:=h;simp[hB]
 | .st u fs,_,h=>by
  simp only[aY]at h;obtain⟨l,a,b,d,rfl⟩:=h;exact Kw d
theorem Kw:∀{l:List Nat}{vs:List PV}{a:List (List dl)},bk P w ad l vs a->∀c∈a.flatten,c.oneCell'=true
 |[],[],_,h=>by simp only[bk]at h;subst h;simp
 |[],_::_,_,h=>by simp[bk]at h
 |_::_,[],_,h=>by simp[bk]at h
 |n::f,v::vs,a,h=>by
  simp only[bk]at h;obtain⟨c,cs,rfl,b,d,e⟩:=h;intro x hx;simp only[hT,h6]at hx;exact hx.elim (LF b x) (Kw e x)
end
mutual
theorem yp:∀{v:AV}{cs:List dl},br P w ad β H v cs->∀c∈cs,c.oneCell'=true
 | .p t,_,h=>by simp only[br]at h;exact LF h
 | .ptr ..,_,h| .bZ ..,_,h| .sl ..,_,h| .map ..,_,h=>by simp only[br]at h;obtain⟨v,rfl,b,_⟩:=h;simpa using b
 | .func ..,_,h=>by simp only[br]at h;obtain⟨_,_,_,_,rfl⟩:=h;simp[hB]
 | .aC _,_,h=>by simp[br]at h
 | .st u fs,_,h=>by
  simp only[br]at h;obtain⟨l,a,b,d,rfl⟩:=h;exact Kx d
theorem Kx:∀{l:List Nat}{vs:List AV}{a:List (List dl)},bM P w ad β H l vs a->∀c∈a.flatten,c.oneCell'=true
 |[],[],_,h=>by simp only[bM]at h;subst h;simp
 |[],_::_,_,h=>by simp[bM]at h
 |_::_,[],_,h=>by simp[bM]at h
 |n::f,v::vs,a,h=>by
  simp only[bM]at h;obtain⟨c,cs,rfl,b,d,e⟩:=h;intro x hx;simp only[hT,h6]at hx;exact hx.elim (yp b x) (Kx e x)
end
theorem pR(d:bU P w ad β H ah){b:Nat}{o o':Obj}(c:H[b]?=some o)(j:o.live)(l:o'.live)(m:∀v,o.has v->o'.has v){q new:Array dl}{T:dq}
 (i:w.heap[β.an b]?=some (.cells q T (0,0)))(e:¬ad (β.an b)/\¬ah (β.an b))(aN:cw β H β (H.set b o'))
 (n:ff P (w.setRow (β.an b) new) ad β (H.set b o') ah b o')(p:o'.refs (aJ (H.set b o'))):
 bY P ah ad w β H ad (w.setRow (β.an b) new) β (H.set b o'):=by
 refine bY.set d (hE.1 c).1 (fun _ _=>⟨rfl,rfl⟩) (fun _ x=>x) (fun _ x=>.inl x) (fun k hk=>by rw[e6];exact d.bQ k hk) (by rw[e6];exact i5 _)
  (fun k hk _=>ed w _ k _ (hk.resolve_right (fun h=>h l))) (fun _=>.inr ⟨rfl,⟨o,c,j⟩,.inr e.1,e.2⟩) aN n p (fun r v a f=>by rw[c]at a;cases a;exact m v f) (fun L g=>by obtain⟨_,_,_,a,_⟩:=d.cJ b _ g;rw[i]at a;cases a)
theorem oH{b:Nat}{o o':Obj}(j:H[b]?=some o)(hk:(∃f g t y,o= .box f t/\o'= .box g y)\/(∃k v z d l,o= .arr k v z d/\o'= .arr k v z l/\d.length=l.length)\/(∃f g d l,o= .map f d/\o'= .map g l)\/(∃s p u,o= .du s p/\o'= .du s u)):
 cw β H β (H.set b o'):=by
 have r:b<H.length:=(hE.1 j).1;have i:∀x,x≠b->(H.set b o')[x]?=H[x]?:=fun x hx=>h0 (Ne.symm hx);have e:(H.set b o')[b]?=some o':=hF r;refine⟨?_,?_,?_,?_,?_⟩
 ·rintro x _ ⟨fz,t,h⟩;refine⟨?_,rfl⟩
  by_cases hx:x=b
  ·subst hx;rw[e]at h;cases h;rcases hk with⟨f,g,t1,t2,c,a⟩|⟨_,_,_,_,_,_,a,_⟩|⟨_,_,_,_,_,a⟩|⟨_,_,_,_,a⟩
   ·exact⟨f,t1,by rw[j,c]⟩
   all_goals cases a
  ·rw[i x hx]at h;exact⟨fz,t,h⟩
 ·rintro x _ ⟨s,p,h⟩;refine⟨?_,rfl⟩
  by_cases hx:x=b
  ·subst hx;rw[e]at h;cases h;rcases hk with⟨f,g,t1,t2,c,a⟩|⟨_,_,_,_,_,_,a,_⟩|⟨_,_,_,_,_,a⟩|⟨s1,m,w,c,a⟩
   ·cases a
   ·cases a
   ·cases a
   ·exact⟨s1,m,by rw[j,c]⟩
  ·rw[i x hx]at h;exact⟨s,p,h⟩
 ·rintro x _ ⟨fz,t,h⟩;refine⟨?_,rfl⟩
  by_cases hx:x=b
  ·subst hx;rw[e]at h;cases h;rcases hk with⟨f,g,t1,t2,c,a⟩|⟨_,_,_,_,_,_,a,_⟩|⟨f,g,e1,e2,c,a⟩|⟨s1,m,w,c,a⟩
   ·cases a
   ·cases a
   ·exact⟨f,e1,by rw[j,c]⟩
   ·cases a
  ·rw[i x hx]at h;exact⟨fz,t,h⟩
 ·intro x az ai k d _ h
  by_cases hx:x=b
  ·subst hx;unfold fg at h⊢;rw[e]at h;cases h;rcases hk with⟨f,g,t1,t2,c,a⟩|⟨k0,v,z,n,A,c,a,q⟩|⟨_,_,_,_,_,a⟩|⟨_,_,_,_,a⟩
   ·cases a
   ·cases a;refine⟨k,n,by rw[j,c],by omega,?_,fun _=>⟨rfl,rfl⟩⟩;unfold dd;rw[<-hL,<-hL,q]
   ·cases a
   ·cases a
  ·unfold fg at h⊢;rw[i x hx]at h;exact⟨k,d,h,i5 _,Iff.rfl,fun _=>⟨rfl,rfl⟩⟩
 ·rintro x _ ⟨L,h⟩;refine⟨?_,rfl⟩
  by_cases hx:x=b
  ·subst hx;rw[e]at h;cases h;rcases hk with⟨f,g,t1,t2,c,a⟩|⟨_,_,_,_,_,_,a,_⟩|⟨_,_,_,_,_,a⟩|⟨_,_,_,_,a⟩<;>cases a
  ·rw[i x hx]at h;exact⟨L,h⟩
variable{o:Oper}{ρ:dp->AV}{base:Nat}
theorem H9{T:dq}{a x:dp}(p:o.op= .store T a x){e:dp->dl}{an off:Nat}{b:List dl}{d:Array dl}{f:dq}(j:e a= .pointer (some ⟨an,off,none⟩))
 (hx:(e x).cells.toList=b)(q:P.cellsOf T=b.length/\∃i,P.info? T=some i/\i.size=b.length)(k:w.heap[an]?=some (.cells d f (0,0)))(n:∀c∈b,c.oneCell'=true)(m:off+b.length<=d.size):
 (dz e o).run P w=.ok .skip (w.setRow an (d.toList.take off++b++d.toList.drop (off+b.length)).toArray):=by
 obtain⟨_,i,hi,l⟩:=q;have h:(sizeOf T).run P w=.ok b.length w:=by simp[sizeOf,typeInfo,hi,l]
 have g:=eo (P:=P) an off f b 0 d w k (by simpa using m) n;simp only[i9]at g;have r:(e x).cells.size=b.length:=by rw[<-hx];simp
 simp only[dz,p,Instr.storeAt,j,gm];simp[storeVar,h,r,hx,g]
theorem BA(u:dq)(fs:List AV):aa (gY u fs)=.agg u:=by
 unfold gY;split<;>rfl
theorem V3{t:AV}{c:List (dq×Nat)}{x s d:AV}(hs:eK t c=some s)(a:fL t c x=some d)(e:aa s=aa x):aa d=aa t:=by
 cases c with
 |nil=>
  simp only[fL,j9]at a;subst a;have:s=t:=by
   cases t<;>simp[eK]at hs<;>exact hs.symm
  rw[<-e,this]
 |cons p r=>
  obtain⟨u,i⟩:=p;cases t<;>simp only[fL]at a
  case p t=>
   split at a
   case isFalse=>simp at a
   rename_i b
   split at a
   case h_2=>simp at a
   split at a
   case h_2=>simp at a
   simp only[j9]at a;subst a;rw[BA];simp[aa,b]
  case st u' fs=>
   split at a
   case isFalse=>simp at a
   rename_i b
   split at a
   case h_2=>simp at a
   split at a
   case h_2=>simp at a
   simp only[j9]at a;subst a;rw[BA];simp[aa,b]
  all_goals simp at a
theorem Xk{T:dq}{a x:dp}(z:o.op= .store T a x){H0:aj}{K:aW->Prop}(h:nA P T H0 (ρ a) (ρ x) K):
 ∃e,K e/\bw P o ρ base e/\(∀p∈e.al,H0[p.1]?=some p.2)/\(∀p∈e.aM,p.1<H0.length/\p.2≠.hole):=by
 unfold nA at h;obtain⟨hk,ab,h⟩:=h
 split at h
 ·rename_i b aq N
  split at h
  case h_2=>exact h.elim
  rename_i t B
  split at h
  case h_2=>exact h.elim
  rename_i s j hs r;obtain⟨J,h⟩:=h;refine⟨_,h,?_,by simpa using B,by simpa using(hE.1 B).1⟩;intro H w ad ah β f l D al _;have d:H[b]?=some (.box false t):=by simpa using al
  obtain⟨g,_⟩:=D a (by simp[z,g8]);obtain⟨aa,M⟩:=D x (by simp[z,g8]);rw[N]at g;simp only[aA,bO,bR]at g;obtain⟨_,am,Z,L,W,U,g⟩:=g;obtain⟨rfl,rfl⟩:=g (.inl ⟨false,t,d⟩);obtain⟨cs,A,k1,k2,k3,k4⟩:=l.cJ b _ d;obtain⟨pre,xs,post,e1,e2,e3,e4⟩:=oQ k2 hs U;have m:=xD aa ab;have q:(f x).cells.toList.length=xs.length:=by rw[(nt m).1,(nt e3).1,J]
  have ae:cs.size=pre.length+xs.length+post.length:=by
   have:=congrArg hZ e1;simp at this;omega
  have C:=H9 z W rfl (w8 hk m) k1 (yp m) (by omega);have aS:(cs.toList.take Z++(f x).cells.toList++cs.toList.drop (Z+(f x).cells.toList.length))=pre++(f x).cells.toList++post:=by
   rw[e1,q,<-e2];simp
  rw[aS]at C;have aN:cw β H β (H.set b (.box false j)):=oH d (.inl ⟨_,_,_,_,rfl,rfl⟩);have Q:∀y,aJ H y->aJ (H.set b (.box false j)) y:=lM d (fun _ h=>h);have X:∀k,ad k->(w.setRow (β.an b) (pre++(f x).cells.toList++post).toArray).heap[k]?=w.heap[k]?:=fun k S=>ed w _ k _ (fun O=>k3.1 (O▸S));have V:=pR l d trivial (o':=.box false j) trivial (fun _ h=>h) k1 (new:=(pre++(f x).cells.toList++post).toArray) k3 aN
   ⟨_,A,ei w _ _ _ A _ k1,br.mono (fun _ x=>x) X aN _ _ (uK r (l.refs b _ d) M) (e4 _ _ _ r m q),k3,by simp,by rw[V3 hs r J];exact k4.2⟩
   (aE.mono Q _ (uK r (l.refs b _ d) M))
  exact⟨_,_,_,β,ad,C,.inr ⟨rfl,rfl⟩,V,by simp[aA,aD,bJ,undef],by simp[aE]⟩
 ·rename_i b az ai i aq N
  split at h
  case h_2=>exact h.elim
  rename_i k aC ay n B;obtain⟨rfl,rfl,ag,hi,h⟩:=h
  split at h
  case h_2=>exact h.elim
  rename_i s j hs r;obtain⟨J,h⟩:=h;refine⟨_,h,?_,by simpa using B,by simpa using(hE.1 B).1⟩;intro H w ad ah β f l D al _;have d:H[b]?=some (.arr k az ai n):=by simpa using al
  obtain⟨g,_⟩:=D a (by simp[z,g8]);obtain⟨aa,M⟩:=D x (by simp[z,g8]);rw[N]at g;simp only[aA,bO,bR]at g;have I:¬dd k n:=fun G=>by rw[G.2]at hi;simp at hi
  obtain⟨_,am,Z,L,W,U,g⟩:=g;obtain⟨rfl,rfl⟩:=g k n d I;rcases l.cJ b _ d with hold|⟨cs,A,ax,rest,k1,k2,k3,k4,k5,k6,k7,k8⟩
  ·exact(I hold).elim
  have af:¬ad (β.an b)/\¬ah (β.an b):=by
   unfold cG at k7;rw[if_neg (by simpa using ag)]at k7;exact k7
  obtain⟨u,c,F,ar,au,aB,av,aw⟩:=yS k2 hi;obtain⟨pre,xs,post,e1,e2,e3,e4⟩:=oQ av hs U;have m:=xD aa ab;have q:(f x).cells.toList.length=xs.length:=by rw[(nt m).1,(nt e3).1,J]
  have ac:cs.toList=(u++pre)++xs++(post++F++rest):=by rw[k3,ar,e1];simp
  have ae:cs.size=(u++pre).length+xs.length+(post++F++rest).length:=by
   have:=congrArg hZ ac;simp at this⊢;omega
  have ap:(u++pre).length=i*ai+L:=by simp[au,e2]
  have C:=H9 z W rfl (w8 hk m) k1 (yp m) (by omega);have aS:(cs.toList.take (i*ai+L)++(f x).cells.toList++cs.toList.drop (i*ai+L+(f x).cells.toList.length))=(u++pre)++(f x).cells.toList++(post++F++rest):=by
   rw[ac,q,<-ap,hM (u++pre),List.take_left',List.drop_append,hM]
   ·simp
   ·rfl
  rw[aS]at C;obtain⟨an,c1,c2⟩:=aw j _ (e4 _ _ _ r m q) (by rw[e1];simp[q]);have aN:cw β H β (H.set b (.arr k az ai (n.set i j))):=oH d (.inr (.inl ⟨_,_,_,_,_,rfl,rfl,by simp⟩));have Q:∀y,aJ H y->aJ (H.set b (.arr k az ai (n.set i j))) y:=lM d (fun _ h=>h);have ao:¬dd k (n.set i j):=fun G=>I ⟨G.1,by have:=G.2;rw[List.set_eq_nil_iff]at this;exact this⟩;have ak:aX (aJ H) (n.set i j):=by
   rw[cV];intro v Y;rcases h7 Y with Y|rfl
   ·exact cV.1 (l.refs b _ d) v Y
   ·exact uK r (cV.1 (l.refs b _ d) _ (ix hi)) M
  have X:∀E,ad E->(w.setRow (β.an b) ((u++pre)++(f x).cells.toList++(post++F++rest)).toArray).heap[E]?=w.heap[E]?:=fun E S=>ed w _ E _ (fun O=>af.1 (O▸S));have V:=pR l d I (o':=.arr k az ai (n.set i j)) ao (fun _ h=>h) k1 (new:=((u++pre)++(f x).cells.toList++(post++F++rest)).toArray) af aN
   (.inr ⟨_,A,an,rest,ei w _ _ _ A _ k1,bM.mono (fun _ x=>x) X aN _ _ _ ak c2,by rw[c1];simp,by
    rw[<-k4,ae];simp[q];omega,by simpa using k5,fun R=>by rw[k6 R];simp,k7,(fun R=>(ag R).elim),k8.2⟩)
   (aX.mono Q _ ak)
  exact⟨_,_,_,β,ad,C,.inr ⟨rfl,rfl⟩,V,by simp[aA,aD,bJ,undef],by simp[aE]⟩
 ·exact h.elim
end
section
variable{P:eb}{w:ea}{ad ah:Nat->Prop}{β:Bd}{H:aj}
theorem AW(P:eb)(T:dq):P.underlying T=(P.info? (P.underlyingId T)).map (fun i:ec=>i.desc):=by
 unfold hm hn;cases hi:P.info? T with
 |none=>simp[hi]
 |some i=>
  obtain⟨d,_,_,_,_,_,_,_,_,_⟩:=i;cases d<;>simp[hi]
theorem Be{T u:dq}(h:kindOf P T=.agg u):u=P.underlyingId T/\(∃l,dx P u=some l)/\P.cellsOf T=P.cellsOf u:=by
 unfold kindOf at h
 split at h
 ·split at h
  ·rename_i hc;simp at h;subst h;simp at hc;exact⟨rfl,j5.1 hc.1,hc.2⟩
  ·simp at h
 ·split at h
  ·rename_i hc;simp at h;subst h;simp at hc;exact⟨rfl,j5.1 hc.1,hc.2⟩
  ·simp at h
 ·split at h<;>simp at h
 ·simp at h
theorem ui{T u:dq}{n:Nat}(h:eX P T=some (u,n)):∃fs l,P.underlying T=some (.struct fs)/\fs.size=n/\kindOf P T= .agg u/\dx P u=some l/\l.length=n/\
 ∀(i:Nat)(_hi:i<n),∃f,fs[i]?=some f/\f.offset=(l.take i).sum/\l[i]?=some (P.cellsOf f.type)/\0<P.cellsOf f.type/\(jm P u)[i]?=some f.type:=by
 unfold eX at h
 split at h
 case h_2=>simp at h
 rename_i u' fs hk c;simp at h;obtain⟨rfl,rfl⟩:=h;obtain⟨g,⟨l,a⟩,_⟩:=Be hk;refine⟨fs,l,c,rfl,hk,a,?_⟩;have b:(P.info? u').map (fun i:ec=>i.desc)=some (.struct fs):=by rw[g,<-AW,c]
 unfold dx at a;rw[b]at a;dsimp only at a
 split at a
 case isFalse=>simp at a
 rename_i hc;simp at a;simp only[dg,List.all_eq_true,decide_eq_true_eq,beq_iff_eq]at hc;obtain⟨⟨d,j⟩,e⟩:=hc;subst a;refine⟨by simp,fun i hi=>?_⟩;refine⟨fs[i],by simp[hi],?_,by simp[hi],?_,?_⟩
 ·have:=e (fs[i],i) (by rw[List.mem_iff_getElem?];exact⟨i,by simp[hi]⟩);simpa using this
 ·have:=d (P.cellsOf fs[i].type) (by simp;exact⟨fs[i],by simp,rfl⟩);exact this
 ·unfold jm;rw[b];simp[hi]
theorem uy{T u:dq}{n:Nat}(h:gW P T=some (u,n)):∃e,P.underlying T=some (.array n e)/\kindOf P T=.agg u/\dx P u=some (hG n (P.cellsOf e))/\0<P.cellsOf e:=by
 unfold gW at h
 split at h
 case h_2=>simp at h
 rename_i u' g e hk b;simp at h;obtain⟨rfl,rfl⟩:=h;obtain⟨d,⟨l,a⟩,_⟩:=Be hk;have c:(P.info? u').map (fun i:ec=>i.desc)=some (.array g e):=by rw[d,<-AW,b]
 have f:=a;unfold dx at a;rw[c]at a;dsimp only at a
 split at a
 case isFalse=>simp at a
 rename_i hc;simp at a hc;exact⟨e,b,hk,by rw[f,a],hc.1⟩
theorem xa{p q:List (dq×Nat)}{a b:Nat}(c:fV P p=some a)(f:fV P q=some b):fV P (p++q)=some (a+b):=by
 induction p generalizing a with
 |nil=>simp[fV]at c;subst c;simpa using f
 |cons x p g=>
  obtain⟨u,i⟩:=x;simp only[fV]at c;cases d:dx P u with
  |none=>simp[d]at c
  |some l=>
   cases e:fV P p with
   |none=>simp[d,e]at c
   |some a'=>
    simp[d,e]at c;obtain⟨hi,rfl⟩:=c;simp only[List.cons_append,fV,d,g e,if_pos hi];congr 1;omega
theorem xf{u:dq}{i:Nat}{l:List Nat}(a:dx P u=some l)(hi:i<l.length):fV P [(u,i)]=some (l.take i).sum:=by
 simp[fV,a,hi]
variable{o:Oper}{ρ:dp->AV}{base:Nat}
theorem j0(an off n:Nat):(⟨an,off,none⟩:Addr).add n=⟨an,off+n,none⟩:=by unfold Addr.add;split<;>simp_all
theorem SR{T:dq}{a:dp}{f:Nat}(v:o.op= .fieldAddr T a f){K:aW->Prop}(h:ni P T (ρ a) f K):
 ∃e,K e/\bw P o ρ base e/\e.al=[]/\e.aM=[]:=by
 unfold ni at h
 split at h
 case h_2=>exact h.elim
 rename_i u n aN;obtain⟨hf,h⟩:=h;obtain⟨fs,l,L,x,hk,G,O,E⟩:=ui aN;obtain⟨fd,g1,g2,g3,g4,g5⟩:=E f hf;have z:=xf G (by omega:f<l.length);have B:∀(w:ea)(d:dp->dl)(an off:Nat),d a=.pointer (some ⟨an,off,none⟩)->(dz d o).run P w=.ok (.value (.pointer (some ⟨an,off+(l.take f).sum,none⟩))) w:=by
  intro w d an off m;obtain⟨i,hi⟩:∃i,P.info? fd.type=some i:=by
   cases hi:P.info? fd.type with
   |none=>simp[hl,hi]at g4
   |some i=>exact⟨i,rfl⟩
  have J:(sizeOf fd.type).run P w=.ok (P.cellsOf fd.type) w:=by simp[sizeOf,typeInfo,hi,hl]
  simp only[dz,v];refine eL ?_;have I:¬P.cellsOf fd.type=0:=by omega
  simp[Instr.fieldAt,dk L,g1,m,gm,fieldPlace,J,I,j0,g2]
 split at h
 ·rename_i b N m;refine⟨_,h,bw.same fun H w ad ah β d D r _=>?_,rfl,rfl⟩;obtain⟨c,j⟩:=r a (by simp[v,g8]);rw[m]at c j;simp only[aA,bO,bR,aE]at c j;obtain⟨_,an,off,M,A,y,p⟩:=c;refine⟨_,B w d _ _ A,?_,by simpa[aE]using j⟩;simp only[aA,bO,bR];exact⟨rfl,_,_,_,rfl,xa y z,fun q=>⟨(p q).1,by rw[(p q).2]⟩⟩
 ·rename_i b az ai i N m;refine⟨_,h,bw.same fun H w ad ah β d D r _=>?_,rfl,rfl⟩;obtain⟨c,j⟩:=r a (by simp[v,g8]);rw[m]at c j;simp only[aA,bO,bR,aE]at c j;obtain⟨_,an,off,M,A,y,p⟩:=c;refine⟨_,B w d _ _ A,?_,by simpa[aE]using j⟩;simp only[aA,bO,bR];exact⟨rfl,_,_,_,rfl,xa y z,fun k C q x=>⟨(p k C q x).1,by rw[(p k C q x).2];omega⟩⟩
 ·rename_i t m;obtain⟨hs,h⟩:=h
  split at h
  case h_2=>exact h.elim
  rename_i g F;refine⟨_,h,?_,rfl,rfl⟩;refine bw.same fun H w ad ah β d D r _=>?_;obtain⟨c,_⟩:=r a (by simp[v,g8]);rw[m]at c;simp only[aA,aD]at c;obtain⟨an,off,Q,k1,k2,k3,k4⟩:=c;refine⟨_,B w d _ _ k4,?_,by simp[aE]⟩;obtain⟨pre,xs,post,e1,e2,e3⟩:=yc (path:=[(u,f)]) (s:=g) k1 (by simp[kD,hs,F]) z;simp only[aA,aD];refine⟨an,off+(l.take f).sum,xs,e3,k2,?_,rfl⟩;intro i hi;have:=k3 (pre.length+i) (by rw[e1];simp;omega);rw[<-e2,js,this];congr 1;simp only[e1,hM];rw[h8 (by omega)];simp only[jh];rw[h9 hi]
 ·exact h.elim
end
section
variable{P:eb}{w:ea}{ad ah:Nat->Prop}{β:Bd}{H:aj}
variable{o:Oper}{ρ:dp->AV}{base:Nat}
theorem sf{an off:Nat}{a pre xs post:List dl}(h:gK w an off a)(e:a=pre++xs++post):gK w an (off+pre.length) xs:=by
 intro i hi;have:=h (pre.length+i) (by rw[e];simp;omega);rw[js,this];congr 1;simp only[e,hM];rw[h8 (by omega)];simp only[jh];rw[h9 hi]
structure pZ(P:eb)(T:dq)(sz:Nat)(e:dq)(i:ec):Prop where
 gl:P.underlying T=some (.slice e)
 info:P.info? e=some i
 size:i.size=sz
 pos:0<sz
 bytes:i.bytes<32768
 aJ5:0<i.bytes
 pL:dY P T=e
theorem jV{T:dq}{sz:Nat}(h:cC P T=some sz):∃e i,pZ P T sz e i:=by
 unfold cC at h
 split at h
 case h_2=>simp at h
 rename_i e a
 split at h
 case h_2=>simp at h
 rename_i i hi
 split at h
 case isFalse=>simp at h
 rename_i hc;simp at h;subst h;exact⟨e,i,a,hi,rfl,hc.2.1,hc.1,hc.2.2,by simp[dY,a]⟩
theorem pZ.run{T:dq}{sz:Nat}{e:dq}{i:ec}(h:pZ P T sz e i)(w:ea):(sizeOf e).run P w=.ok sz w:=by
 simp[sizeOf,typeInfo,h.info,h.size]
theorem SQ{T:dq}{x S:dp}(B:o.op= .indexAddr T x S){H0:aj}{K:aW->Prop}(h:nh P T H0 (ρ x) (ρ S) K):
 ∃e,K e/\bw P o ρ base e/\(∀p∈e.al,H0[p.1]?=some p.2)/\e.aM=[]:=by
 unfold nh at h
 split at h
 case h_2=>exact h.elim
 rename_i ar n am;obtain⟨C,h⟩:=h;have E:x∈o.op.operands:=by simp[B,g8]
 have ao:S∈o.op.operands:=by simp[B,g8]
 have D:∀{H:aj}{w:ea}{ad:Nat->Prop}{β:Bd}{z:dp->dl},(∀y∈o.op.operands,aA P w ad β H (ρ y) (z y)/\aE (aJ H) (ρ y))->z S=.int ar n:=by
  intro H w ad β z f;have:=(f S ao).1;rw[am]at this;simpa[aA,aD]using this
 split at h
 ·
  rename_i full d hx;obtain⟨j,r,h⟩:=h;obtain⟨e,ag,A⟩:=jV r;refine⟨_,h,bw.same fun H w ad ah β z O f _=>?_,by simp,rfl⟩;obtain⟨a,_⟩:=f x E;rw[hx]at a;simp only[aA,aD]at a;obtain⟨an,off,cap,ai,V,k1,k2,k3,k4,k5,sp,aa,k6⟩:=a;obtain rfl:sp=none:=aa.resolve_right (by omega);have Z:Row P w ad ⟨id,id⟩ [] ai (d.map .p) V:=lL.2 k1;obtain⟨pre,c,post,ab,ac,ae,U,_⟩:=yS Z (i:=n.toNat) (by simpa using j);have M:aY P w ad d[n.toNat] c:=by
   have:(d.map AV.p)[n.toNat]'(by simpa using j)=.p d[n.toNat]:=by simp
   rw[this]at U;simpa only[br]using U
  have W:bD P (aL d[n.toNat])=ai:=by rw[<-(oG M).1,ae]
  refine⟨.pointer (some ⟨an,off+n.toNat*ai,none⟩),?_,?_,by simp[aE]⟩
  ·simp only[dz,B];refine eL ?_;have q:n<(d.length:Int):=by omega
   simp[gx,D f,asIntOf,dk A.gl,k6,C,q,A.run,W,j0]
  ·simp only[aA,aD];refine⟨an,off+n.toNat*ai,c,M,k2 (by intro F;rw[F]at j;simp at j),?_,rfl⟩;rw[<-ac];exact sf k3 ab
 ·
  rename_i d hx;obtain⟨j,r,h⟩:=h;obtain⟨e,ag,A⟩:=jV r;refine⟨_,h,bw.same fun H w ad ah β z O f _=>?_,by simp,rfl⟩;obtain⟨a,_⟩:=f x E;rw[hx]at a;simp only[aA,aD]at a;rcases a with⟨rfl,_⟩|⟨an,off,cap,ai,V,k1,k2,k3,k5,sp,aa,k6⟩
  ·simp at j
  obtain rfl:sp=none:=aa.resolve_right (by omega);have Z:Row P w ad ⟨id,id⟩ [] ai (d.map .p) V:=lL.2 k1;obtain⟨pre,c,post,ab,ac,ae,U,_⟩:=yS Z (i:=n.toNat) (by simpa using j);have M:aY P w ad d[n.toNat] c:=by
   have:(d.map AV.p)[n.toNat]'(by simpa using j)=.p d[n.toNat]:=by simp
   rw[this]at U;simpa only[br]using U
  have W:bD P (aL d[n.toNat])=ai:=by rw[<-(oG M).1,ae]
  refine⟨.pointer (some ⟨an,off+n.toNat*ai,none⟩),?_,?_,by simp[aE]⟩
  ·simp only[dz,B];refine eL ?_;have q:n<(d.length:Int):=by omega
   simp[gx,D f,asIntOf,dk A.gl,k6,C,q,A.run,W,j0]
  ·simp only[aA,aD];refine⟨an,off+n.toNat*ai,c,M,k2 (by intro F;rw[F]at j;simp at j),?_,rfl⟩;rw[<-ac];exact sf k3 ab
 ·
  rename_i b az ai off len hx;obtain⟨r,j,h⟩:=h;obtain⟨e,ag,A⟩:=jV r
  split at h
  case h_2=>exact h.elim
  rename_i k aF ax d aq;obtain⟨rfl,rfl,ap,h⟩:=h;refine⟨_,h,bw.same fun H w ad ah β z O f al=>?_,by simpa using aq,rfl⟩;obtain⟨a,l⟩:=f x E;rw[hx]at a l;simp only[aA,bO,bR,aE]at a l;have af:H[b]?=some (.arr k az ai d):=by simpa using al
  obtain⟨g1,g2,g3⟩:=a.2 k d af;have g3:=g3 ap;refine⟨.pointer (some ⟨β.an b,off*ai+n.toNat*ai,none⟩),?_,?_,by simpa[aE]using l⟩
  ·simp only[dz,B];refine eL ?_;have q:n<(len:Int):=by omega
   simp[gx,D f,asIntOf,dk A.gl,g3,C,q,A.run,j0]
  ·simp only[aA,bO,bR];refine⟨rfl,_,_,0,rfl,rfl,fun aB aw v ay=>?_⟩;unfold fg at v;rw[af]at v;cases v;exact⟨rfl,by rw[i8];simp⟩
 ·
  rename_i b av hx
  split at h
  case h_2=>exact h.elim
  rename_i u m G;obtain⟨j,h⟩:=h;obtain⟨e,R,hk,I,N⟩:=uy G;refine⟨_,h,bw.same fun H w ad ah β z O f _=>?_,by simp,rfl⟩;obtain⟨a,l⟩:=f x E;rw[hx]at a l;simp only[aA,bO,bR,aE]at a l;obtain⟨_,an,off,au,Y,X,v⟩:=a;have L:=xf I (i:=n.toNat) (by simpa using j);have Q:((hG m (P.cellsOf e)).take n.toNat).sum=n.toNat*P.cellsOf e:=by rw[hK,i7 (by omega),hJ]
  have r:(sizeOf e).run P w=.ok (P.cellsOf e) w:=by
   cases hi:P.info? e with
   |none=>simp[hl,hi]at N
   |some i=>simp[sizeOf,typeInfo,hi,hl]
  refine⟨.pointer (some ⟨an,off+n.toNat*P.cellsOf e,none⟩),?_,?_,by simpa[aE]using l⟩
  ·simp only[dz,B];refine eL ?_;have q:n<(m:Int):=by omega
   simp[gx,D f,asIntOf,dk R,Y,gm,C,q,r,j0]
  ·simp only[aA,bO,bR];exact⟨rfl,_,_,_,rfl,xa X L,fun J=>⟨(v J).1,by rw[(v J).2,Q]⟩⟩
 ·rename_i b az ai i av hx
  split at h
  case h_2=>exact h.elim
  rename_i u m G;obtain⟨j,h⟩:=h;obtain⟨e,R,hk,I,N⟩:=uy G;refine⟨_,h,bw.same fun H w ad ah β z O f _=>?_,by simp,rfl⟩;obtain⟨a,l⟩:=f x E;rw[hx]at a l;simp only[aA,bO,bR,aE]at a l;obtain⟨_,an,off,au,Y,X,v⟩:=a;have L:=xf I (i:=n.toNat) (by simpa using j);have Q:((hG m (P.cellsOf e)).take n.toNat).sum=n.toNat*P.cellsOf e:=by rw[hK,i7 (by omega),hJ]
  have r:(sizeOf e).run P w=.ok (P.cellsOf e) w:=by
   cases hi:P.info? e with
   |none=>simp[hl,hi]at N
   |some i=>simp[sizeOf,typeInfo,hi,hl]
  refine⟨.pointer (some ⟨an,off+n.toNat*P.cellsOf e,none⟩),?_,?_,by simpa[aE]using l⟩
  ·simp only[dz,B];refine eL ?_;have q:n<(m:Int):=by omega
   simp[gx,D f,asIntOf,dk R,Y,gm,C,q,r,j0]
  ·simp only[aA,bO,bR];exact⟨rfl,_,_,_,rfl,xa X L,fun k d J F=>⟨(v k d J F).1,by rw[(v k d J F).2,Q];omega⟩⟩
 ·rename_i t hx
  split at h
  case h_2=>exact h.elim
  rename_i u m G;obtain⟨hs,j,h⟩:=h
  split at h
  case h_2=>exact h.elim
  rename_i g ak;obtain⟨e,R,hk,I,N⟩:=uy G;refine⟨_,h,bw.same fun H w ad ah β z O f _=>?_,by simp,rfl⟩;obtain⟨a,_⟩:=f x E;rw[hx]at a;simp only[aA,aD]at a;obtain⟨an,off,aC,k1,k2,k3,k4⟩:=a;have L:=xf I (i:=n.toNat) (by simpa using j);have Q:((hG m (P.cellsOf e)).take n.toNat).sum=n.toNat*P.cellsOf e:=by rw[hK,i7 (by omega),hJ]
  have r:(sizeOf e).run P w=.ok (P.cellsOf e) w:=by
   cases hi:P.info? e with
   |none=>simp[hl,hi]at N
   |some i=>simp[sizeOf,typeInfo,hi,hl]
  obtain⟨pre,xs,post,e1,e2,e3⟩:=yc (path:=[(u,n.toNat)]) (s:=g) k1 (by simp[kD,hs,ak]) L;refine⟨.pointer (some ⟨an,off+n.toNat*P.cellsOf e,none⟩),?_,?_,by simp[aE]⟩
  ·simp only[dz,B];refine eL ?_;have q:n<(m:Int):=by omega
   simp[gx,D f,asIntOf,dk R,k4,gm,C,q,r,j0]
  ·simp only[aA,aD];refine⟨an,_,xs,e3,k2,?_,rfl⟩;rw[<-Q,<-e2];exact sf k3 e1
 ·exact h.elim
theorem aIC{bs:ByteArray}{s:List Nat}(h:s=bs.data.toList.map (·.toNat)){i:Nat}(hi:i<s.length):∃b:UInt8,bs[i]?=some b/\b.toNat=s[i]:=by
 subst h;have a:i<bs.size:=by simpa using hi
 refine⟨bs[i],by simp[a],?_⟩;simp only[List.getElem_map,cx];rfl
theorem TV{T:dq}{x f:dp}{s:List Nat}{k:eq}{n:Int}(e:o.op= .index T x f)(hx:ρ x= .p (.str s))(hi:ρ f= .p (.int k n))(d:iA P T=true)(i:0<=n)(g:n.toNat<s.length):
 bw P o ρ base {v:=.p (.int .u8 (s[n.toNat]'g))}:=by
 refine bw.same fun H w ad ah β m l h _=>?_;have a:=(h x (by simp[e,g8])).1;have c:=(h f (by simp[e,g8])).1;rw[hx]at a;rw[hi]at c;simp only[aA,aD]at a c;obtain⟨bs,e1,e2⟩:=a;obtain⟨b,g1,g2⟩:=aIC e2 g;have j:P.underlying T=some .string:=by
  unfold iA at d
  split at d
  ·assumption
  ·simp at d
 refine⟨.int .u8 b.toNat,?_,by simp[aA,aD,g2],by simp[aE]⟩;simp only[dz,e,e1,c];refine eL ?_;simp[Instr.index,asIntOf,dk j,i,g1]
theorem Uj{S D:dq}{x:dp}{k k0:eq}{n:Int}(b:o.op= .convert S D x)(e:∃d,P.underlying S=some d)(c:P.underlying D=some (.int k))(hx:ρ x= .p (.int k0 n)):
 bw P o ρ base {v:=.p (.int k (k.wrap n))}:=by
 refine bw.same fun H w ad ah β i h g _=>?_;have a:=(g x (by simp[b,g8])).1;rw[hx]at a;simp only[aA,aD]at a;obtain⟨d,f⟩:=e;refine⟨.int k (k.wrap n),?_,by simp[aA,aD],by simp[aE]⟩;simp only[dz,b,a];refine eL ?_;simp[convert,dk f,dk c,Conv.intToInt]
theorem Ui{S D:dq}{x:dp}{s:List Nat}(b:o.op= .convert S D x)(e:∃d,P.underlying S=some d)(c:P.underlying D=some .string)(hx:ρ x= .p (.str s)):
 bw P o ρ base {v:=.p (.str s)}:=by
 refine bw.same fun H w ad ah β i h g _=>?_;have a:=(g x (by simp[b,g8])).1;rw[hx]at a;simp only[aA,aD]at a;obtain⟨bs,e1,e2⟩:=a;obtain⟨d,f⟩:=e;refine⟨.string bs,?_,by simp only[aA,aD];exact⟨bs,rfl,e2⟩,by simp[aE]⟩;simp only[dz,b,e1];refine eL ?_;simp only[convert,hr,dk f,dk c,hp];cases d<;>simp
theorem U8{b az ai off len:Nat}{k:AK}{d:List AV}{v:dl}(h:aA P w ad β H (.sl b az ai off len) v)(j:H[b]?=some (.arr k az ai d)):∃a c,v=.slice a len c:=by
 simp only[aA,bO,bR]at h;obtain⟨f,g,i⟩:=h.2 k d j
 by_cases e:dd k d
 ·rw[g e];have:len=0:=by rw[e.2]at f;simp at f;omega
  subst this;exact⟨_,_,rfl⟩
 ·exact⟨_,_,i e⟩
theorem Bm:∀{b:List (PV×PV)}{a:List MapEntry},cH P w ad b a->a.length=b.length
 |[],a,h=>by simp only[cH]at h;subst h;rfl
 |(k,v)::r,a,h=>by
  simp only[cH]at h;obtain⟨e,rest,rfl,d,f,c⟩:=h;simp[Bm c]
theorem aHq{c:Call}{x:dp}{n:Nat}{al:List (Nat×Obj)}{H0:aj}(G:o.op= .call c)(hc:c.callee= .builtin .len)(E:c.args.toList=[x])(i:lenOf H0 (ρ x)=some (n,al))(d:gR P (c.argTypes.getD 0 0) (ρ x)=true)(O:0<c.argTypes.size):
 bw P o ρ base {v:=.p (.int .i64 n),al}/\(∀p∈al,H0[p.1]?=some p.2):=by
 have u:x∈o.op.operands:=by
  rw[G];simp only[g8,Call.operands,hc];simp;rw[<-Array.mem_toList_iff,E];simp
 have J:c.args=#[x]:=by apply b5;simpa using E
 have q:c.argTypes[0]?=some (c.argTypes.getD 0 0):=by simp[Array.getD,O]
 have t:∀{H:aj}{w:ea}{ad:Nat->Prop}{β:Bd}{m:dp->dl},((fv c.argTypes o.type #[m x]).run P w= .ok (goInt n) w)->
  ∃D,(dz m o).run P w=.ok (.value D) w/\aA P w ad β H (.p (.int .i64 n)) D/\aE (aJ H) (.p (.int .i64 n)):=by
  intro H w ad β m L;refine⟨goInt n,?_,by simp[aA,aD,goInt],by simp[aE]⟩;simp only[dz,G,resolve,hc,J];simp[invoke,builtin,L]
 have N:∀T:dq,iA P T=true->P.underlying T=some .string:=by
  intro T h;unfold iA at h
  split at h
  ·assumption
  ·simp at h
 generalize R:c.argTypes.getD 0 0=T at*;unfold lenOf at i
 split at i
 ·rename_i s hx;simp at i;obtain⟨rfl,rfl⟩:=i;rw[hx]at d;simp only[gR]at d;refine⟨bw.same fun H w ad ah β m y j _=>t ?_,by simp⟩;have g:=(j x u).1;rw[hx]at g;simp only[aA,aD]at g;obtain⟨bs,e1,e2⟩:=g;have hs:s.length=bs.size:=by rw[e2];simp
  simp[fv,q,dk (N _ d),e1,hs]
 ·rename_i hx;simp at i;obtain⟨rfl,rfl⟩:=i;rw[hx]at d;refine⟨bw.same fun H w ad ah β m y j _=>t ?_,by simp⟩;have g:=(j x u).1;rw[hx]at g;simp only[aA,aD]at g;simp only[gR]at d
  split at d
  ·rename_i e l;simp[fv,q,dk l,g]
  ·simp at d
 ·rename_i hx;simp at i;obtain⟨rfl,rfl⟩:=i;rw[hx]at d;refine⟨bw.same fun H w ad ah β m y j _=>t ?_,by simp⟩;have g:=(j x u).1;rw[hx]at g;simp only[aA,aD]at g;simp only[gR]at d
  split at d
  ·rename_i k e l;simp[fv,q,dk l,g]
  ·simp at d
 ·rename_i f z hx;simp at i;obtain⟨rfl,rfl⟩:=i;rw[hx]at d;refine⟨bw.same fun H w ad ah β m y j _=>t ?_,by simp⟩;have g:=(j x u).1;rw[hx]at g;simp only[aA,aD]at g;obtain⟨an,off,cap,ai,I,k1,k2,k3,k4,k5,sp,M,k6⟩:=g;simp only[gR]at d
  split at d
  ·rename_i e l;simp[fv,q,dk l,k6]
  ·simp at d
 ·rename_i z hx;simp at i;obtain⟨rfl,rfl⟩:=i;rw[hx]at d;refine⟨bw.same fun H w ad ah β m y j _=>t ?_,by simp⟩;have g:=(j x u).1;rw[hx]at g;simp only[aA,aD]at g;simp only[gR]at d
  split at d
  ·rename_i e l;rcases g with⟨rfl,k6⟩|⟨an,off,cap,ai,I,k1,k2,k3,k5,sp,M,k6⟩
   ·simp[fv,q,dk l,k6]
   ·simp[fv,q,dk l,k6]
  ·simp at d
 ·rename_i z hx;simp at i;obtain⟨rfl,rfl⟩:=i;rw[hx]at d;refine⟨bw.same fun H w ad ah β m y j _=>t ?_,by simp⟩;have g:=(j x u).1;rw[hx]at g;simp only[aA,aD]at g;obtain⟨r,A,clock,k1,k2,k3,k4⟩:=g;simp only[gR]at d
  split at d
  ·rename_i k e l;have:=Bm k3;have B:(getObj r).run P w=.ok (.map A clock) w:=by simp[getObj,hw,k2]
   simp at this;simp[fv,q,dk l,k4,B,this]
  ·simp at d
 ·rename_i b az ai off len hx
  split at i
  case h_2=>simp at i
  rename_i k S Q z C
  split at i
  case isFalse=>simp at i
  rename_i K;obtain⟨rfl,rfl⟩:=K;simp at i;obtain⟨rfl,rfl⟩:=i;rw[hx]at d;refine⟨bw.same fun H w ad ah β m y j al=>t ?_,by simpa using C⟩;have g:=(j x u).1;rw[hx]at g;obtain⟨a,cp,e1⟩:=U8 g (by simpa using al);simp only[gR]at d
  split at d
  ·rename_i e l;simp[fv,q,dk l,e1]
  ·simp at d
 ·rename_i b hx
  split at i
  case h_2=>simp at i
  rename_i fz z C;simp at i;obtain⟨rfl,rfl⟩:=i;rw[hx]at d;refine⟨bw.same fun H w ad ah β m y j al=>t ?_,by simpa using C⟩;have g:=(j x u).1;rw[hx]at g;simp only[aA,bO,bR]at g;have F:H[b]?=some (.map fz z):=by simpa using al
  obtain⟨A,clock,k2,k3,_⟩:=y.cJ b _ F;have e1:=g.2.1 ⟨fz,z,F⟩;simp only[gR]at d
  split at d
  ·rename_i k e l;have:=Bm k3;have B:(getObj (β.an b)).run P w=.ok (.map A clock) w:=by simp[getObj,hw,k2]
   simp at this;simp[fv,q,dk l,e1,B,this]
  ·simp at d
 ·simp at i
end
section
variable{P:eb}{w:ea}{ad ah:Nat->Prop}{β:Bd}{H:aj}
variable{o:Oper}{ρ:dp->AV}{base:Nat}
theorem JR:∀(a:List dl)(off j:Nat)(cells:Array dl),off+j+a.length<=cells.size->
 ((a.zipIdx j).foldl (fun cs(p:dl×Nat)=>cs.setIfInBounds (off+p.2) p.1) cells).toList=cells.toList.take (off+j)++a++cells.toList.drop (off+j+a.length)
 |[],off,j,cells,_=>by simp
 |x::a,off,j,cells,h=>by
  simp only[List.zipIdx_cons,List.foldl_cons];rw[JR a off (j+1) _ (by simp at h⊢;omega)];simp only[Array.toList_setIfInBounds,List.length_cons];have d:off+j<cells.toList.length:=by simp at h⊢;omega
  rw[show off+(j+1)=off+j+1 by omega];have b:(cells.toList.set (off+j) x).take (off+j+1)=cells.toList.take (off+j)++[x]:=by
   rw[List.take_succ_eq_append_getElem (by simpa using d)];rw[List.take_set_of_le (i5 _)];simp
  have c:(cells.toList.set (off+j) x).drop (off+j+1+a.length)=cells.toList.drop (off+j+(a.length+1)):=by
   rw[List.drop_set_of_lt (by omega)];congr 1;omega
  rw[b,c];simp
theorem Ta{a c post b:List dl}(h:b.length=c.length):((a++c++post).take a.length++b++(a++c++post).drop (a.length+b.length))=a++b++post:=by
 rw[h];simp
theorem Bj{l:List Nat}{place:Nat->Option (Nat×Nat)}(s:∀i n,l[i]?=some n->place i=some ((l.take i).sum,n)):
 ∀{f:List (Nat×AV)}{j:List (Nat×dl)}{fs:List AV}{e:List (List dl)}{cells:Array dl},j.map kd=f.map kd->(∀i:Nat,aA P w ad β H (((f[i]?).map kc).getD (.p .undef)) (((j[i]?).map kc).getD undef))->
  lI P l f->bM P w ad β H l fs e->cells.toList=e.flatten->
  ∃g m,g0 place cells j=some g/\bM P w ad β H l (iw fs f) m/\g.toList=m.flatten
 |[],[],fs,e,cells,_,_,_,h,hc=>⟨cells,e,rfl,h,hc⟩
 |[],_::_,_,_,_,b,_,_,_,_=>by simp at b
 |_::_,[],_,_,_,b,_,_,_,_=>by simp at b
 |(i,a)::f,(d,v)::j,fs,e,cells,b,t,o,h,hc=>by
  simp only[hV,List.cons.injEq]at b;obtain⟨rfl,b⟩:=b;simp only[lI]at o;obtain⟨⟨n,q,hs,B⟩,o⟩:=o;have G:aA P w ad β H a v:=by simpa using t 0
  have y:=fun k=>t (k+1);simp only[ii]at y;have L:=xc h;have K:d<l.length:=(hE.1 q).1;have C:d<fs.length:=by omega
  obtain⟨pre,c,post,e1,e2,e3,e4,e5,A⟩:=sM h (hP C);have J:c.length=n:=by rw[q]at e4;simpa using e4.symm
  have u:=xD G B;have x:v.cells.toList.length=n:=by rw[(nt u).1,hs]
  obtain⟨m,k1,k2⟩:=A a _ u (by omega);have F:cells.size=pre.length+c.length+post.length:=by
   have:=congrArg hZ (hc.trans e1);simp at this;omega
  have I:v.cells.size=n:=by simpa using x
  obtain⟨nG,r⟩:∃nG,(v.cells.zipIdx.foldl (fun cs(p:dl×Nat)=>cs.setIfInBounds ((l.take d).sum+p.2) p.1) cells)=nG:=⟨_,rfl⟩
  have D:nG.toList=m.flatten:=by
   rw[<-r,k1];have:=JR v.cells.toList (l.take d).sum 0 cells (by rw[<-e2];simp at x⊢;omega);rw[<-c9];simp only[Array.toList_zipIdx];rw[this,hc,e1,i9,<-e2];exact Ta (by omega)
  obtain⟨g,z,g1,g2,g3⟩:=Bj s b y o k2 D;refine⟨g,z,?_,by simpa only[iw]using g2,g3⟩;have E:¬(v.cells.size≠n\/(l.take d).sum+v.cells.size>cells.size):=by
   rw[I,F,<-e2];omega
  simp only[g0,s d n q];simp only[Bool.or_eq_true,decide_eq_true_eq,E,if_false];simp only[<-r]at g1;exact g1
end
section
variable{P:eb}{w:ea}{ad ah:Nat->Prop}{β:Bd}{H:aj}
variable{o:Oper}{ρ:dp->AV}{base:Nat}
theorem GF{α γ:Type}(f:α->Sem γ)(g:α->γ)(w:ea):∀l:List α,(∀a∈l,(f a).run P w=.ok (g a) w)->(l.mapM f).run P w=.ok (l.map g) w
 |[],_=>by simp
 |a::l,h=>by
  simp only[i1,hr,h a (by simp),hp,GF f g w l (fun b c=>h b (by simp[c])),hV];rfl
theorem SD{α γ:Type}(f:α->Sem γ)(g:α->γ)(w:ea)(a:Array α)(h:∀x∈a.toList,(f x).run P w=.ok (g x) w):(a.mapM f).run P w=.ok (a.toList.map g).toArray w:=by
 rw[cv,hv,GF f g w _ h];rfl
theorem IK{ρc:dp->dl}{parts:Array (Nat×dp)}(h:∀p∈parts.toList,aA P w ad β H (ρ p.2) (ρc p.2)):
 ((parts.map fun(i,x)=>(i,ρc x)).toList).map kd=(parts.toList.map fun(i,x)=>(i,ρ x)).map kd/\
 ∀i:Nat,aA P w ad β H ((((parts.toList.map fun(i,x)=>(i,ρ x))[i]?).map kc).getD (.p .undef)) ((((parts.map fun(i,x)=>(i,ρc x)).toList[i]?).map kc).getD undef):=by
 refine⟨by simp[Function.comp_def],fun i=>?_⟩;simp only[da,ip];cases a:parts.toList[i]? with
 |none=>simp[aA,aD]
 |some p=>simpa using h p (hX a)
theorem BK{S:Nat×Nat->Prop}:∀{b:List (Nat×AV)}{fs:List AV},aX S fs->(∀p∈b,aE S p.2)->aX S (iw fs b)
 |[],fs,h,_=>h
 |(i,v)::r,fs,h,a=>by
  simp only[iw];refine BK ?_ (fun p c=>a p (by simp[c]));rw[cV]at h⊢;intro x hx;rcases h7 hx with hx|rfl
  ·exact h x hx
  ·exact a (i,x) (by simp)
theorem IL{c:Array (Nat×dp)}{p:Nat×dp}(a:p∈c.toList):p.2∈((c.toList.map (·.2)).toArray:Array dp):=by
 simp;exact⟨p.1,by simpa using a⟩
theorem WE{T u:dq}{z:PV}{l:List Nat}{c:Array (Nat×dp)}(y:o.op= .build T c)(hk:kindOf P T= .agg u)(U:ct P T=some z)(s:dx P u=some l)(hs:aL z= .agg u)
 (O:lI P l (c.toList.map fun(i,x)=>(i,ρ x))):bw P o ρ base {v:=gY u (iw ((bW z).map .p) (c.toList.map fun(i,x)=>(i,ρ x)))}:=by
 obtain⟨i,ac,z1,z2,z3,z4⟩:=pT U;refine bw.same fun H w ad ah β m ai V _=>?_;have G:∀p∈c.toList,aA P w ad β H (ρ p.2) (m p.2)/\aE (aJ H) (ρ p.2):=fun p g=>V p.2 (by rw[y];exact IL g);obtain⟨X,Y⟩:=IK (ρ:=ρ) (ρc:=m) (parts:=c) (fun p g=>(G p g).1);have I:=z3 w ad;obtain⟨fs,rfl⟩:∃fs,z=.st u fs:=by cases z<;>simp[aL]at hs;subst hs;exact⟨_,rfl⟩
 simp only[aY]at I;obtain⟨W,ae,q1,Z,aa⟩:=I;rw[s]at q1;cases q1
 have E:∀A:Nat->Option (Nat×Nat),(∀i n,l[i]?=some n->A i=some ((l.take i).sum,n))->
  (∀cells,g0 A ac.cells (c.map fun(i,x)=>(i,m x)).toList=some cells->(dz m o).run P w=.ok (.value (.agg cells)) w)->
  ∃C,(dz m o).run P w=.ok (.value C) w/\aA P w ad β H (gY u (iw ((bW (.st u fs)).map .p) (c.toList.map fun(i,x)=>(i,ρ x)))) C/\
   aE (aJ H) (gY u (iw ((bW (.st u fs)).map .p) (c.toList.map fun(i,x)=>(i,ρ x)))):=by
  intro A Q S;obtain⟨L,M,g1,g2,g3⟩:=Bj Q X Y O (nr.2 Z) aa;refine⟨.agg L,S _ g1,?_,AY (BK (iO _ _) ?_)⟩
  ·rw[Xu];simp only[aA];exact⟨l,M,s,g2,by rw[<-g3]⟩
  ·intro p g;simp only[i4]at g;obtain⟨q,hq,rfl⟩:=g;exact(G q hq).2
 have k:=hk;unfold kindOf at k
 split at k
 ·rename_i a d;have aN:eX P T=some (u,a.size):=by unfold eX;rw[hk,d]
  obtain⟨af,W,s1,s2,B,t,ab,J⟩:=ui aN;rw[d]at s1;cases s1;rw[s]at t;cases t;have R:(a.mapM fun f=>(do pure (f.offset,<-sizeOf f.type):Sem (Nat×Nat))).run P w=.ok (a.toList.map fun f:e9=>(f.offset,P.cellsOf f.type)).toArray w:=by
   refine SD _ _ w _ (fun f hf=>?_);obtain⟨j,r,rfl⟩:=List.mem_iff_getElem.1 hf;obtain⟨D,g1,g2,g3,g4,g5⟩:=J j (by simpa using r);have:a[j]'(by simpa using r)=D:=by
    have F:a[j]?=some (a[j]'(by simpa using r)):=Array.getElem?_eq_getElem (by simpa using r);rw[g1]at F;exact(kb F).symm
   simp only[cx,this];simp[K g4]
  refine E (fun i=>(a.toList.map fun f:e9=>(f.offset,P.cellsOf f.type)).toArray[i]?) ?_ (fun cells hc=>?_)
  ·intro i n b;have hi:i<a.size:=by rw[<-ab];exact(hE.1 b).1
   obtain⟨D,g1,g2,g3,g4,g5⟩:=J i hi;rw[b]at g3;simp only[List.getElem?_toArray,ip,cb,g1];simp[g2,kb g3]
  ·simp only[dz,y];refine eL ?_;simp only[g7,hr,sx z1 z2,hp,dk d,R,hc,ht]
 ·rename_i n e d;have N:gW P T=some (u,n):=by unfold gW;rw[hk,d]
  obtain⟨e',s1,s2,B,t⟩:=uy N;rw[d]at s1;cases s1;rw[s]at B;cases B;refine E (fun i=>some (i*P.cellsOf e,P.cellsOf e)) ?_ (fun cells hc=>?_)
  ·intro i aj b;rw[hQ]at b
   split at b
   ·rename_i ag;simp at b;subst b;rw[hK,i7 (by omega),hJ]
   ·simp at b
  ·simp only[dz,y];refine eL ?_;simp only[g7,hr,sx z1 z2,hp,dk d,K t,hc,ht]
 ·split at k<;>simp at k
 ·simp at k
where
 K {P:eb} {w:ea} {T:dq} (h:0<P.cellsOf T):(sizeOf T).run P w=.ok (P.cellsOf T) w:=by
  cases hi:P.info? T with
  |none=>simp[hl,hi]at h
  |some i=>simp[sizeOf,typeInfo,hi,hl]
theorem A3(a:Array dl)(n:Nat)(_h:0<a.size):((ce (n*a.size)).map (a[·% a.size]!)).toList=(hG n a.toList).flatten:=by
 simp only[da,Array.toList_range]
 induction n with
 |zero=>simp
 |succ n c=>
  rw[Nat.succ_mul,List.range_add,List.map_append,c,List.replicate_succ',h3];congr 1;simp only[List.map_map,hT,iz,hS];refine List.ext_getElem (by simp) (fun i b d=>?_);simp at b;simp[Nat.mul_add_mod_self_right,Nat.mod_eq_of_lt b,b,getElem!_pos]
theorem xb{z:PV}{a:List dl}(h:aY P w ad z a):∀n:Nat,Row P w ad β H a.length (hG n (.p z)) (hG n a)
 |0=>ij.2 rfl
 |n+1=>by
  rw[ik,ik,qc];exact⟨a,_,rfl,by simpa only[br]using h,rfl,xb h n⟩
theorem A9(d:bU P w ad β H ah){b:Nat}(c:H[b]?=some .hole){cells:Array dl}{T:dq}{k:AK}{ai cap:Nat}{a:List AV}{e:List (List dl)}{rest:List dl}(g:k≠ .frozen)(n:¬dd k a)
 (o:Row P w ad β H ai a e)(i:aX (aJ H) a)(hc:cells.toList=e.flatten++rest)(p:cells.size=cap*ai)(m:a.length<=cap)(l:k=.exact->cap=a.length)(q:k=.bytes->T=Gl.u8):
 bY P ah ad w β H ad {w with heap:=w.heap.push (.cells cells T)} (β.at b w.heap.size cap) (H.set b (.arr k 0 ai a))/\
 aA P {w with heap:=w.heap.push (.cells cells T)} ad (β.at b w.heap.size cap) (H.set b (.arr k 0 ai a)) (.sl b 0 ai 0 a.length) (.slice (some ⟨w.heap.size,0,none⟩) a.length cap):=by
 have aN:=xP (β:=β) c (.arr k 0 ai a) w.heap.size cap;have al:∀y,aJ H y->aJ (H.set b (.arr k 0 ai a)) y:=lM c (fun _ h=>h.elim);have j:=(hE.1 c).1;refine⟨sA (cap:=cap) d c (ob:=.cells cells T)
  (.inr ⟨cells,T,e,rest,by simp[Bd.at],bM.mono (fun _ x=>x) (fun k hk=>uv _ _ (d.bQ k hk)) aN _ _ _ i o,hc,by simp[Bd.at,p],by simpa[Bd.at]using m,by simpa[Bd.at]using l,by
   unfold cG;rw[if_neg (by simpa using g)];simp only[Bd.at,if_true];exact⟨fun h=>i6 _ (d.bQ _ h),fun h=>i6 _ (d.dU _ h)⟩,(fun h=>(g h).elim),q⟩) (aX.mono al _ i),?_⟩
 simp only[aA,bO,bR];refine⟨rfl,fun s r f=>?_⟩;unfold fg at f;rw[hF j]at f;cases f;exact⟨by omega,fun h=>(n h).elim,fun _=>by simp[Bd.at]⟩
theorem SG{T:dq}{n sz:Nat}{z:PV}{a:Array (Nat×dp)}(C:o.op= .buildSlice T n a)(b:cC P T=some sz)(W:ct P (dY P T)=some z)(hs:bD P (aL z)=sz)(ac:n*sz<=1000000)
 (O:lI P (hG n sz) (a.toList.map fun(i,x)=>(i,ρ x))):
 bw P o ρ base {v:=.sl base 0 sz 0 n,aS:=[.arr .exact 0 sz (iw (hG n (.p z)) (a.toList.map fun(i,x)=>(i,ρ x)))]}:=by
 obtain⟨e,af,b⟩:=jV b;obtain⟨i,f,z1,z2,z3,z4⟩:=pT W;rw[b.pL]at z1;intro H w ad ah β t Q Y _ M;have B:H[base]?=some .hole:=by simpa using M 0 (by simp)
 have D:∀p∈a.toList,aA P w ad β H (ρ p.2) (t p.2)/\aE (aJ H) (ρ p.2):=fun p d=>Y p.2 (by rw[C];exact IL d);obtain⟨Z,aa⟩:=IK (ρ:=ρ) (ρc:=t) (parts:=a) (fun p d=>(D p d).1);have F:=z3 w ad;have s:f.cells.size=sz:=by have:=(oG F).1;simp at this;omega
 have r:=xb (β:=β) (H:=H) F n;have X:f.cells.toList.length=sz:=by simpa using s
 rw[X]at r;obtain⟨y,m⟩:∃c,c=(ce (n*sz)).map (f.cells[·% f.cells.size]!):=⟨_,rfl⟩
 have N:y.toList=(hG n f.cells.toList).flatten:=by
  rw[m,<-s];exact A3 _ _ (by rw[s];exact b.pos)
 have S:bM P w ad β H (hG n sz) (hG n (.p z)) (hG n f.cells.toList):=by
  unfold Row at r;simpa using r
 obtain⟨u,I,g1,g2,g3⟩:=Bj (place:=fun i=>some (i*sz,sz)) (by
  intro i ae j;rw[hQ]at j
  split at j
  ·rename_i ab;simp at j;subst j;rw[hK,i7 (by omega),hJ]
  ·simp at j) Z aa O S N
 have l:(iw (hG n (.p z)) (a.toList.map fun(i,x)=>(i,ρ x))).length=n:=by
  have:=(xc g2).2.1;simpa using this
 have E:Row P w ad β H sz (iw (hG n (.p z)) (a.toList.map fun(i,x)=>(i,ρ x))) I:=by unfold Row;rw[l];exact g2
 have R:aX (aJ H) (iw (hG n (.p z)) (a.toList.map fun(i,x)=>(i,ρ x))):=by
  refine BK ?_ ?_
  ·rw[cV];intro v V;rw[ih V];simp[aE]
  ·intro p d;simp only[i4]at d;obtain⟨q,hq,rfl⟩:=d;exact(D q hq).2
 have L:u.size=n*sz:=by
  have A:=(fJ E).2;rw[l,<-g3]at A;simpa using A
 have U:(dz t o).run P w=.ok (.value (.slice (some ⟨w.heap.size,0,none⟩) n n)) {w with heap:=w.heap.push (.cells u e)}:=by
  simp only[dz,C];have J:¬(n*sz>2^24):=by omega
  have K:n*sz=0->(ce (n*sz)).map ((#[]:Array dl)[·% (#[]:Array dl).size]!)=y:=by
   intro g;rw[m,g];simp
  refine ug ?_;simp only[Instr.buildSlice,hr,dk b.gl,hp,b.run,if_neg J]
  by_cases g:n*sz=0
  ·rw[if_pos g];simp only[hr,ht,hp,K g,g1,newRow,ej]
  ·rw[if_neg g];simp only[hr,ht,hp,sx z1 z2,<-m,g1,newRow,ej]
 obtain⟨q1,G⟩:=A9 (T:=e) (k:=.exact) Q B (by simp) (by simp[dd,AK.gr]) E R (rest:=[]) (by simpa using g3) (by rw[L]) (by omega:_<=n) (fun _=>l.symm) (fun h=>by cases h);rw[l]at G;exact⟨_,_,_,_,ad,U,.inl rfl,q1,G,by
  simp only[aE,lA];exact⟨_,hF (hE.1 B).1,i5 _⟩⟩
theorem SP{T:dq}{lo q:dp}{sz:Nat}{z:PV}{l:Int}(t:o.op= .makeSlice T lo q)(a:cC P T=some sz)(W:ct P (dY P T)=some z)(K:ρ lo= .p (.int .i64 l))(hc:ρ q= .p (.int .i64 l))
 (hs:bD P (aL z)=sz)(b:0<=l)(L:l<=cW):bw P o ρ base {v:=.sl base 0 sz 0 l.toNat,aS:=[.arr .exact 0 sz (hG l.toNat (.p z))]}:=by
 obtain⟨e,d,a⟩:=jV a;obtain⟨i,g,z1,z2,z3,z4⟩:=pT W;rw[a.pL]at z1;intro H w ad ah β Y N B _ J;have u:H[base]?=some .hole:=by simpa using J 0 (by simp)
 have r:=(B lo (by simp[t,g8])).1;have j:=(B q (by simp[t,g8])).1;rw[K]at r;rw[hc]at j;simp only[aA,aD]at r j;have A:=z3 w ad;have m:g.cells.size=sz:=by have:=(oG A).1;simp at this;omega
 obtain⟨n,rfl⟩:=Int.eq_ofNat_of_zero_le b;have y:=xb (β:=β) (H:=H) A n;have X:g.cells.toList.length=sz:=by simpa using m
 rw[X]at y;obtain⟨f,s⟩:∃c,c=(ce (n*sz)).map (g.cells[·% g.cells.size]!):=⟨_,rfl⟩
 have x:f.toList=(hG n g.cells.toList).flatten:=by
  rw[s,<-m];exact A3 _ _ (by rw[m];exact a.pos)
 have M:n<=1073741824:=by unfold cW at L;omega
 have D:d.bytes*n<=32768*1073741824:=jp (by have:=a.bytes;omega) M;have O:(dz Y o).run P w=.ok (.value (.slice (some ⟨w.heap.size,0,none⟩) n n)) {w with heap:=w.heap.push (.cells f e)}:=by
  simp only[dz,t,r,j];have V:IntKind.i64.wrap (n:Int)=n:=IntWalk.i64_in _ (by omega);have Q:¬((n:Int)<0):=by omega
  have R:¬((d.bytes:Int)*n>2^48):=by
   intro I;have j:d.bytes*n<=35184372088832:=D;have Z:((d.bytes*n:Nat):Int)>281474976710656:=by rw[Int.natCast_mul];exact I
   omega
  have E:n*sz=0->(ce (n*sz)).map ((#[]:Array dl)[·% (#[]:Array dl).size]!)=f:=by
   intro b;rw[s,b];simp
  have S:(typeInfo e).run P w=.ok d w:=by simp[typeInfo,a.info]
  have F:((decide ((n:Int)<0)||decide ((d.bytes:Int)*n>2^48))||decide ((n:Int)<0)||decide ((n:Int)>n))=false:=by
   simp only[Q,R,decide_false,Bool.or_false,Bool.false_or];simp
  refine ug ?_;simp only[Instr.makeSlice,hr,dk a.gl,hp,asInt,asIntOf,ht,S,V];rw[if_neg (by simpa using F)];simp only[hr,run_askRoom,hp,a.run,Int.toNat_natCast]
  by_cases b:n*sz=0
  ·rw[if_pos b];simp only[hr,ht,hp,E b,newRow,ej]
  ·rw[if_neg b];simp only[hr,ht,hp,sx z1 z2,<-s,newRow,ej]
 have G:f.size=n*sz:=by
  have:=congrArg hZ x;simp at this;rw[this];simp[m]
 obtain⟨q1,C⟩:=A9 (T:=e) (k:=.exact) N u (cells:=f) (cap:=n) (by simp) (by simp[dd,AK.gr]) y (by
  rw[cV];intro v U;rw[ih U];simp[aE]) (rest:=[]) (by simpa using x) G (by simp) (fun _=>by simp) (fun h=>by cases h)
 simp only[List.length_replicate]at C;exact⟨_,_,_,_,ad,O,.inl rfl,q1,C,by
  simp only[aE,lA];exact⟨_,hF (hE.1 u).1,i5 _⟩⟩
end
section
variable{P:eb}{w:ea}{ad ah:Nat->Prop}{β:Bd}{H:aj}
variable{o:Oper}{ρ:dp->AV}{base:Nat}
theorem jX{x:Option dp}{d:Nat}{R:Nat->Prop}(h:gu (x.map ρ) d R):
 ∃n,R n/\((x=none/\n=d)\/∃y k,x=some y/\ρ y=.p (.int k n)):=by
 cases x with
 |none=>exact⟨d,h,.inl ⟨rfl,rfl⟩⟩
 |some y=>
  simp only[j8,gu]at h
  split at h
  ·rename_i hx;cases hx
  ·rename_i k i hx;simp at hx;obtain⟨a,h⟩:=h;refine⟨i.toNat,h,.inr ⟨y,k,rfl,?_⟩⟩;rw[hx,Int.toNat_of_nonneg a]
  ·exact h.elim
theorem sc{lo hi:Option dp}{ρc:dp->dl}{b:Bool}{len cap d h l:Nat}(m:d=len)(n:(hi=none/\h=d)\/∃y k,hi=some y/\ρ y= .p (.int k h))(o:(lo=none/\l=0)\/∃y k,lo=some y/\ρ y= .p (.int k l))
 (f:h<=cap)(g:l<=h)(e:∀y,(hi=some y\/lo=some y)->aA P w ad β H (ρ y) (ρc y)):(gi b len cap (lo.map ρc) (hi.map ρc) none).run P w=.ok (l,h,cap) w:=by
 subst m;rcases n with⟨rfl,rfl⟩|⟨y,k,rfl,i⟩<;>rcases o with⟨rfl,rfl⟩|⟨z,q,rfl,j⟩
 ·simp[gi]
 ·have c:=e z (.inr rfl);rw[j]at c;simp only[aA,aD]at c;simp[gi,c,gt,asIntOf,g]
 ·have a:=e y (.inl rfl);rw[i]at a;simp only[aA,aD]at a;simp[gi,a,gt,asIntOf,f]
 ·have a:=e y (.inl rfl);rw[i]at a;simp only[aA,aD]at a;have c:=e z (.inr rfl);rw[j]at c;simp only[aA,aD]at c;simp[gi,a,c,gt,asIntOf,f,g]
theorem rX{T e:dq}(b:P.underlying T=some (.slice e))(x:dl)(lo hi a:Option dl)(w:ea):(gy T x lo hi a).run P w=(gj T x lo hi a).run P w:=by
 simp only[gy,hr,dk b,hp]
theorem S6{T:dq}(b:P.underlying T=some .string)(x:dl)(lo hi a:Option dl)(w:ea):(gy T x lo hi a).run P w=(gj T x lo hi a).run P w:=by
 simp only[gy,hr,dk b,hp]
theorem oI{T:dq}{x y:dp}{lo hi b:Option dp}(a:o.op=.slice T x lo hi b)(h:hi=some y\/lo=some y):y∈o.op.operands:=by
 rw[a];simp only[g8];rcases h with rfl|rfl<;>simp
theorem xj{T:dq}(h:iA P T=true):P.underlying T=some .string:=by
 unfold iA at h
 split at h
 ·assumption
 ·simp at h
theorem uu{ai:Nat}:∀{l:List AV},eM P ai l↔∀v∈l,aa v≠.bad/\bD P (aa v)=ai
 |[]=>by simp[eM]
 |v::l=>by simp[eM,uu (l:=l)]
theorem sD{sz ai:Nat}{a:List AV}{d:List (List dl)}(b:Row P w ad β H ai a d)(hs:eM P sz a)(g:a≠[]):ai=sz:=by
 cases a with
 |nil=>exact(g rfl).elim
 |cons v a=>
  rw[qc]at b;obtain⟨c,cs,rfl,e,f,_⟩:=b;have:=(uu.1 hs v (by simp)).2;rw[<-f,(nt e).1,this]
theorem Kv{ai:Nat}{d:List PV}{e:List (List dl)}(h:bk P w ad (hG d.length ai) d e)(off len:Nat)(f:off+len<=d.length):
 ∃a b c,e=a++b++c/\bk P w ad (hG ((d.drop off).take len).length ai) ((d.drop off).take len) b/\a.flatten.length=off*ai:=by
 have g:Row P w ad ⟨id,id⟩ [] ai (d.map .p) e:=lL.2 h;obtain⟨a,b,c,e1,e2,e3,_⟩:=jD g off len (by simpa using f);rw[AU,lL]at e2;exact⟨a,b,c,e1,e2,e3⟩
theorem WA{T:dq}{x:dp}{lo hi N:Option dp}(r:o.op= .slice T x lo hi N){H0:aj}{K:aW->Prop}(h:nB P T H0 (ρ x) (lo.map ρ) (hi.map ρ) (N.map ρ) K):
 ∃e,K e/\bw P o ρ base e/\(∀p∈e.al,H0[p.1]?=some p.2)/\e.aM=[]:=by
 unfold nB at h;obtain⟨aq,h⟩:=h;obtain rfl:N=none:=by cases N<;>simp_all
 have J:x∈o.op.operands:=by rw[r];simp[g8]
 split at h
 ·
  rename_i s hx;obtain⟨af,h⟩:=h;have ab:=xj af;obtain⟨l,h,C⟩:=jX h;obtain⟨f,h,D⟩:=jX h;obtain⟨A,B,h⟩:=h;refine⟨_,h,bw.same fun H w ad ah β n v m _=>?_,by simp,rfl⟩;have j:=(m x J).1;rw[hx]at j;simp only[aA,aD]at j;obtain⟨bs,e1,e2⟩:=j;have ag:s.length=bs.size:=by rw[e2];simp
  have u:=sc (P:=P) (w:=w) (ad:=ad) (β:=β) (H:=H) (b:=false) (cap:=bs.size) (ρ:=ρ) (ρc:=n) ag C D (by omega) B (fun y z=>(m y (oI r z)).1);refine⟨.string (bs.extract f l),?_,?_,by simp[aE]⟩
  ·simp only[dz,r,e1];refine eL ?_;rw[S6 ab];simp only[gj,hr,dk ab,hp,j6,Option.isSome_none];simp[u]
  ·simp only[aA,aD];refine⟨_,rfl,?_⟩;rw[e2,<-i3,<-List.map_drop,Go.Lib.extract_data,h1]
 ·
  rename_i hx;obtain⟨g,h⟩:=h;obtain⟨sz,g⟩:=j5.1 g;obtain⟨e,X,g⟩:=jV g;obtain⟨l,h,C⟩:=jX h;obtain⟨f,h,D⟩:=jX h;obtain⟨A,B,F⟩:=h;obtain rfl:l=0:=by omega
  obtain rfl:f=0:=by omega
  refine⟨_,F,bw.same fun H w ad ah β n v m _=>?_,by simp,rfl⟩;have j:=(m x J).1;rw[hx]at j;simp only[aA,aD]at j;have u:=sc (P:=P) (w:=w) (ad:=ad) (β:=β) (H:=H) (b:=true) (cap:=0) (ρ:=ρ) (ρc:=n) (len:=0) (d:=0) rfl C D (by omega) B (fun y z=>(m y (oI r z)).1);refine⟨.slice none 0 0,?_,by rw[hx];simp[aA,aD],by rw[hx];simp[aE]⟩;simp only[dz,r,j];refine eL ?_;rw[rX g.gl];simp only[gj,hr,dk g.gl,hp,j6,u,g.run];simp
 ·
  rename_i full q hx;obtain⟨l,h,C⟩:=jX h;obtain⟨f,h,D⟩:=jX h;obtain⟨A,B,h⟩:=h
  split at h
  case h_2=>exact h.elim
  rename_i sz g;obtain⟨U,h⟩:=h;obtain⟨e,X,g⟩:=jV g;refine⟨_,h,bw.same fun H w ad ah β n v m _=>?_,by simp,rfl⟩;have j:=(m x J).1;rw[hx]at j;simp only[aA,aD]at j;obtain⟨an,off,cap,ai,Y,v1,v2,v3,v4,v5,sp,V,v6⟩:=j;have W:cap≠f->sp=none:=fun h=>V.resolve_right (by omega);have u:=sc (P:=P) (w:=w) (ad:=ad) (β:=β) (H:=H) (b:=true) (cap:=cap) (ρ:=ρ) (ρc:=n) rfl C D (by omega) B (fun y z=>(m y (oI r z)).1);refine⟨.slice (some (if cap=f then⟨an,off,sp⟩else⟨an,off+f*sz,none⟩)) (l-f) (cap-f),?_,?_,by simp[aE]⟩
  ·simp only[dz,r,v6];refine eL ?_;rw[rX g.gl];simp only[gj,hr,dk g.gl,hp,j6,u,g.run]
   by_cases hc:cap=f
   ·simp[hc]
   ·obtain rfl:=W hc;simp[hc,j0]
  ·have I:((q.take l).drop f).length=l-f:=by simp;omega
   simp only[aA,aD,I]
   by_cases E:q=[]
   ·subst E;simp at A;subst A;obtain rfl:f=0:=by omega
    by_cases hc:cap=0
    ·exact⟨an,off,cap,sz,[],by simp[bk],by simp,by intro i hi;simp at hi,fun _=>by simpa using hc,by simp,sp,.inr hc,by simp[hc]⟩
    ·exact⟨an,off,cap,sz,[],by simp[bk],by simp,by intro i hi;simp at hi,fun hf=>by simp at hf;simpa using v4 hf,by simp,none,.inl rfl,by simp[hc]⟩
   ·have Q:ai=sz:=sD (w:=w) (ad:=ad) (β:=β) (H:=H) (lL.2 v1) U (by simpa using E);subst Q;obtain⟨a,b,c,e1,e2,e3⟩:=Kv v1 f (l-f) (by omega);rw[<-h1]at e2;have ap:(q.drop f).take (l-f)=(q.take l).drop f:=by rw[h1]
    rw[I]at e2
    by_cases hc:cap=f
    ·obtain rfl:l=f:=by omega
     have O:b=[]:=by
      have:=(uh e2).2.2;simpa using this
     subst O;refine⟨an,off,cap-l,ai,[],by simpa using e2,fun _=>v2 E,by intro i hi;simp at hi,?_,by omega,sp,.inr (by omega),by simp[hc]⟩;intro _;omega
    ·refine⟨an,off+f*ai,cap-f,ai,b,e2,fun _=>v2 E,?_,?_,by omega,none,.inl rfl,by simp[hc]⟩
     ·have:=sf v3 (pre:=a.flatten) (xs:=b.flatten) (post:=c.flatten) (by rw[e1];simp);rw[e3]at this;exact this
     ·intro hf;simp at hf;have:=v4 hf.1;omega
 ·
  rename_i q hx;obtain⟨l,h,C⟩:=jX h;obtain⟨f,h,D⟩:=jX h;obtain⟨A,B,h⟩:=h
  split at h
  case h_2=>exact h.elim
  rename_i sz g;obtain⟨U,h⟩:=h;obtain⟨e,X,g⟩:=jV g;refine⟨_,h,bw.same fun H w ad ah β n v m _=>?_,by simp,rfl⟩;have j:=(m x J).1;rw[hx]at j;simp only[aA,aD]at j;rcases j with⟨rfl,j⟩|⟨an,off,cap,ai,Y,v1,v2,v3,v5,sp,V,v6⟩
  ·simp at A;subst A;obtain rfl:f=0:=by omega
   have u:=sc (P:=P) (w:=w) (ad:=ad) (β:=β) (H:=H) (b:=true) (cap:=0) (ρ:=ρ) (ρc:=n) (len:=0) (d:=0) rfl C D (by omega) B (fun y z=>(m y (oI r z)).1);refine⟨.slice none 0 0,?_,by simp[aA,aD],by simp[aE]⟩;simp only[dz,r,j];refine eL ?_;rw[rX g.gl];simp only[gj,hr,dk g.gl,hp,j6,u,g.run];simp
  have W:cap≠f->sp=none:=fun h=>V.resolve_right (by omega);have u:=sc (P:=P) (w:=w) (ad:=ad) (β:=β) (H:=H) (b:=true) (cap:=cap) (ρ:=ρ) (ρc:=n) rfl C D (by omega) B (fun y z=>(m y (oI r z)).1);refine⟨.slice (some (if cap=f then⟨an,off,sp⟩else⟨an,off+f*sz,none⟩)) (l-f) (cap-f),?_,?_,by simp[aE]⟩
  ·simp only[dz,r,v6];refine eL ?_;rw[rX g.gl];simp only[gj,hr,dk g.gl,hp,j6,u,g.run]
   by_cases hc:cap=f
   ·simp[hc]
   ·obtain rfl:=W hc;simp[hc,j0]
  ·have I:((q.take l).drop f).length=l-f:=by simp;omega
   simp only[aA,aD,I];right
   by_cases E:q=[]
   ·subst E;simp at A;subst A;obtain rfl:f=0:=by omega
    by_cases hc:cap=0
    ·exact⟨an,off,cap,sz,[],by simp[bk],by simp,by intro i hi;simp at hi,by simp,sp,.inr hc,by simp[hc]⟩
    ·exact⟨an,off,cap,sz,[],by simp[bk],by simp,by intro i hi;simp at hi,by simp,none,.inl rfl,by simp[hc]⟩
   ·have Q:ai=sz:=sD (w:=w) (ad:=ad) (β:=β) (H:=H) (lL.2 v1) U (by simpa using E);subst Q;obtain⟨a,b,c,e1,e2,e3⟩:=Kv v1 f (l-f) (by omega);rw[<-h1]at e2;rw[I]at e2
    by_cases hc:cap=f
    ·obtain rfl:l=f:=by omega
     have O:b=[]:=by
      have:=(uh e2).2.2;simpa using this
     subst O;exact⟨an,off,cap-l,ai,[],by simpa using e2,fun _=>v2 E,by intro i hi;simp at hi,by omega,sp,.inr (by omega),by simp[hc]⟩
    ·refine⟨an,off+f*ai,cap-f,ai,b,e2,fun _=>v2 E,?_,by omega,none,.inl rfl,by simp[hc]⟩;have:=sf v3 (pre:=a.flatten) (xs:=b.flatten) (post:=c.flatten) (by rw[e1];simp);rw[e3]at this;exact this
 ·
  rename_i b az ai off len hx
  split at h
  case h_2=>exact h.elim
  rename_i k ar ao q S;obtain⟨rfl,rfl,g,M,hlen,h⟩:=h;obtain⟨l,h,C⟩:=jX h;obtain⟨f,h,D⟩:=jX h;obtain⟨A,B,F⟩:=h;obtain⟨e,X,g⟩:=jV g
  have key:∀(H:aj)(w:ea)(ad ah:Nat->Prop)(β:Bd)(n:dp->dl),bU P w ad β H ah->(∀x∈o.op.operands,aA P w ad β H (ρ x) (n x)/\aE (aJ H) (ρ x))->
   H[b]?=some (.arr k az ai q)->q.length<=β.cap b/\(dz n o).run P w=.ok (.value (.slice (some (if β.cap b-off=f then⟨β.an b,off*ai,none⟩else⟨β.an b,off*ai+f*ai,none⟩)) (l-f) (β.cap b-off-f))) w:=by
   intro H w ad ah β n v m t;have j:=(m x J).1;rw[hx]at j;simp only[aA,bO,bR]at j;obtain⟨_,_,j⟩:=j.2 k q t;have j:=j M;rcases v.cJ b _ t with hold|⟨cs,am,Y,rest,k1,k2,k3,k4,k5,k6⟩
   ·exact(M hold).elim
   have u:=sc (P:=P) (w:=w) (ad:=ad) (β:=β) (H:=H) (b:=true) (cap:=β.cap b-off) (ρ:=ρ) (ρc:=n) rfl C D (by omega) B (fun y z=>(m y (oI r z)).1);refine⟨k5,?_⟩;simp only[dz,r,j];refine eL ?_;rw[rX g.gl];simp only[gj,hr,dk g.gl,hp,j6,u,g.run]
   by_cases hc:β.cap b-off=f
   ·simp[hc]
   ·simp[hc,j0]
  split at F
  ·rename_i Z;subst Z;refine⟨_,F,bw.same fun H w ad ah β n v m al=>?_,by simpa using S,rfl⟩;have t:H[b]?=some (.arr k az ai q):=by simpa using al
   obtain⟨ac,L⟩:=key H w ad ah β n v m t;refine⟨_,L,?_,?_⟩
   ·simp only[aA,bO,bR];refine⟨by simp[hB],fun ak ae G=>?_⟩;unfold fg at G;rw[t]at G;cases G;exact⟨by omega,fun R=>(M R).elim,fun _=>by simp⟩
   ·simp only[aE];exact⟨_,t,i5 _⟩
  ·rename_i Z
   split at F
   ·rename_i aa;subst aa;refine⟨_,F,bw.same fun H w ad ah β n v m al=>?_,by simpa using S,rfl⟩;have t:H[b]?=some (.arr k az ai q):=by simpa using al
    obtain⟨ac,L⟩:=key H w ad ah β n v m t;refine⟨_,L,?_,by simp[aE]⟩;simp only[aA,aD]
    by_cases hc:β.cap b-off=f
    ·exact⟨β.an b,off*ai,β.cap b-off-f,ai,[],by simp[bk],by simp,by intro i hi;simp at hi,by simp,by simp,by simp[hc]⟩
    ·exact⟨β.an b,off*ai+f*ai,β.cap b-off-f,ai,[],by simp[bk],by simp,by intro i hi;simp at hi,by simp,by simp,by simp[hc]⟩
   ·rename_i aa;refine⟨_,F,bw.same fun H w ad ah β n v m al=>?_,by simpa using S,rfl⟩;have t:H[b]?=some (.arr k az ai q):=by simpa using al
    obtain⟨ac,L⟩:=key H w ad ah β n v m t;refine⟨_,L,?_,?_⟩
    ·simp only[aA,bO,bR];refine⟨by simp[hB],fun ak ae G=>?_⟩;unfold fg at G;rw[t]at G;cases G;refine⟨by omega,fun R=>(M R).elim,fun _=>?_⟩;have hc:¬(β.cap b-off=f):=by omega
     rw[if_neg hc,i8,Nat.sub_sub]
    ·simp only[aE];exact⟨_,t,i5 _⟩
 ·exact h.elim
theorem Vo{T:dq}{x:dp}{lo hi:Option dp}{d:dp}(g:o.op= .slice T x lo hi (some d)){H0:aj}{K:aW->Prop}(h:qh P T H0 (ρ x) (lo.map ρ) (hi.map ρ) (ρ d) K):
 ∃e,K e/\bw P o ρ base e/\(∀p∈e.al,H0[p.1]?=some p.2)/\e.aM=[]:=by
 unfold qh at h;have S:x∈o.op.operands:=by rw[g];simp[g8]
 split at h
 case h_2=>exact h.elim
 rename_i b az ai off len hx
 split at h
 case h_2=>exact h.elim
 rename_i k ag ab es V;obtain⟨rfl,rfl,c,E,hlen,X,h⟩:=h;obtain⟨i,h,Q⟩:=jX h;obtain⟨I,h,R⟩:=jX h;have J:gu ((some d).map ρ) 0 (fun m=>off+m<=es.length/\i<=m/\I<=i/\K {v:=.p .undef,al:=[(b,.arr k az ai es)]}):=h;obtain⟨B,h,U⟩:=jX J;obtain⟨ac,C,L,M⟩:=h;obtain⟨sz,c⟩:=j5.1 c;obtain⟨e,af,c⟩:=jV c;refine⟨_,M,bw.same fun H w ad ah β f W n al=>?_,by simpa using V,rfl⟩;have F:H[b]?=some (.arr k az ai es):=by simpa using al
 have a:=(n x S).1;rw[hx]at a;simp only[aA,bO,bR]at a;obtain⟨_,_,a⟩:=a.2 k es F;have a:=a E;rcases W.cJ b _ F with hold|⟨cs,Z,aa,rest,k1,k2,k3,k4,k5,k6⟩
 ·exact(E hold).elim
 have s:∃q,ρ d=.p (.int q B):=by
  rcases U with⟨h,_⟩|⟨y,q,A,a⟩
  ·cases h
  ·cases A;exact⟨q,a⟩
 obtain⟨q,s⟩:=s;have j:=(n d (by rw[g];simp[g8])).1;rw[s]at j;simp only[aA,aD]at j;have O:∃y G,hi=some y/\ρ y=.p (.int G i):=by
  rcases Q with⟨rfl,_⟩|h
  ·simp at X
  ·exact h
 obtain⟨y,G,rfl,A⟩:=O;have l:=(n y (oI g (.inl rfl))).1;rw[A]at l;simp only[aA,aD]at l;have N:(gi true len (β.cap b-off) (lo.map f) (some (f y)) (some (f d))).run P w=.ok (I,i,B) w:=by
  have D:(B:Int)<=((β.cap b-off:Nat):Int):=by omega
  rcases R with⟨rfl,rfl⟩|⟨z,ae,rfl,Y⟩
  ·simp[gi,j,l,gt,asIntOf,D,C]
  ·have u:=(n z (oI g (.inr rfl))).1;rw[Y]at u;simp only[aA,aD]at u;simp[gi,j,l,u,gt,asIntOf,D,C,L]
 have t:∃r,(gy T (f x) (lo.map f) (some (f y)) (some (f d))).run P w=.ok r w:=by
  rw[rX c.gl,a];simp only[gj,hr,dk c.gl,hp,N,c.run];exact⟨_,rfl⟩
 obtain⟨r,t⟩:=t;refine⟨r,?_,by simp only[aA,aD],by simp[aE]⟩;simp only[dz,g,j8];exact eL t
end
section
variable{P:eb}{w:ea}{ad ah:Nat->Prop}{β:Bd}{H:aj}
variable{o:Oper}{ρ:dp->AV}{base:Nat}
theorem abi{H0 H:aj}{a:AV}{c:List AV}(h:gJ H0 a=some c)(al:∀p∈dB H0 a,H[p.1]?=some p.2):gJ H a=some c:=by
 cases a with
 |sl b az ai off len=>
  simp only[gJ]at h⊢;simp only[dB]at al
  split at h
  case h_2=>simp at h
  rename_i k g f e d;rw[d]at al;have:=al _ (h4.2 rfl);simp only at this;rw[this];exact h
 |p v=>cases v<;>exact h
 |_=>simp[gJ]at h
theorem mV{H0:aj}{a:AV}:∀p∈dB H0 a,H0[p.1]?=some p.2:=by
 intro p b;unfold dB at b
 split at b
 all_goals first
  |(split at b
    ·rename_i o c;simp at b;subst b;exact c
    ·simp at b)
  |simp at b
theorem uf{sz m:Nat}{an off n c:Nat}{w:ea}{xs:List dl}(e:xs.length=m*sz)(hc:gK w an off xs):(fl sz m (.slice (some ⟨an,off,none⟩) n c)).run P w=.ok xs.toArray w:=by
 refine en w sz m _ n c xs e ?_;intro j v a;rw[j0];obtain⟨b,d⟩:=hE.1 a;rw[hc j b,d]
theorem AN{sz n c:Nat}{a:Addr}{w:ea}:(fl sz 0 (.slice (some a) n c)).run P w=.ok #[] w:=
 en w sz 0 a n c [] (by simp) (fun j v b=>by simp at b)
theorem uV{sz:Nat}{a:AV}{u:List AV}{v:dl}(g:gJ H a=some u)(I:bU P w ad β H ah)(i:aA P w ad β H a v)(S:aE (aJ H) a)(hs:eM P sz u):
 ∃d,Row P w ad β H sz u d/\aX (aJ H) u/\fw v=pure u.length/\
  ∀w':ea,w'.heap=w.heap->∀m,m<=u.length->(fl sz m v).run P w'=.ok (d.take m).flatten.toArray w':=by
 have G:∀{f:List AV}{d:List (List dl)}(m:Nat),Row P w ad β H sz f d->m<=f.length->(d.take m).flatten.length=m*sz:=by
  intro f d m h j;obtain⟨x,y,z,e1,e2,e3,e4,e5⟩:=jD h 0 m (by omega);have hx:x=[]:=by have:=(fJ e4).1;simpa using this
  have O:y.length=m:=by have:=(fJ e2).1;simp at this;omega
  subst hx;have K:d.take m=y:=by rw[e1];simp[O]
  rw[K];have:=(fJ e2).2;rw[this];simp[j]
 have cells:∀{an off:Nat}{d:List (List dl)}(w':ea),w'.heap=w.heap->gK w an off d.flatten->∀m,gK w' an off (d.take m).flatten:=by
  intro an off d w' q hc m;have J:gK w' an off d.flatten:=hc.same (by rw[q]);have:=sf J (pre:=[]) (xs:=(d.take m).flatten) (post:=(d.drop m).flatten) (by
   rw[i0,<-h3,List.take_append_drop])
  simpa using this
 cases a with
 |p t=>
  cases t with
  |aO=>
   simp[gJ]at g;subst g;simp only[aA,aD]at i;subst i;exact⟨[],ij.2 rfl,by simp[aX],rfl,fun w' _ m j=>by simp[fl]⟩
  |cN full f=>
   simp[gJ]at g;subst g;simp only[aA,aD]at i;obtain⟨an,off,cap,ai,d,v1,v2,v3,v4,v5,sp,E,rfl⟩:=i;rcases E with rfl|rfl
   case inr=>
    obtain rfl:f=[]:=hL.1 (by omega);exact⟨[],ij.2 rfl,by simp[aX],rfl,fun w' _ m j=>by
     obtain rfl:m=0:=by simpa using j
     exact AN⟩
   have h:Row P w ad β H ai (f.map .p) d:=lL.2 v1;have o:Row P w ad β H sz (f.map .p) d:=by
    by_cases n:f.map AV.p=[]
    ·rw[n]at h⊢;rw[ij]at h⊢;exact h
    ·rw[<-sD h hs n];exact h
   refine⟨d,o,iO _ _,by simp[fw],fun w' q m j=>?_⟩;exact uf (G m o j) (cells w' q v3 m)
  |seq f=>
   simp[gJ]at g;subst g;simp only[aA,aD]at i;rcases i with⟨rfl,rfl⟩|⟨an,off,cap,ai,d,v1,v2,v3,v5,sp,E,rfl⟩
   ·exact⟨[],ij.2 rfl,by simp[aX],rfl,fun w' _ m j=>by simp[fl]⟩
   rcases E with rfl|rfl
   case inr=>
    obtain rfl:f=[]:=hL.1 (by omega);exact⟨[],ij.2 rfl,by simp[aX],rfl,fun w' _ m j=>by
     obtain rfl:m=0:=by simpa using j
     exact AN⟩
   have h:Row P w ad β H ai (f.map .p) d:=lL.2 v1;have o:Row P w ad β H sz (f.map .p) d:=by
    by_cases n:f.map AV.p=[]
    ·rw[n]at h⊢;rw[ij]at h⊢;exact h
    ·rw[<-sD h hs n];exact h
   refine⟨d,o,iO _ _,by simp[fw],fun w' q m j=>?_⟩;exact uf (G m o j) (cells w' q v3 m)
  |str s=>
   simp[gJ]at g;subst g;simp only[aA,aD]at i;obtain⟨bs,rfl,rfl⟩:=i;have N:sz=1\/bs.data.toList=[]:=by
    cases B:bs.data.toList with
    |nil=>exact .inr rfl
    |cons a r=>
     rw[B]at hs;simp[eM,aa,aL,bD]at hs;exact .inl hs.1.symm
   have h:Row P w ad β H sz ((bs.data.toList.map (·.toNat)).map fun c=>.p (.int .u8 (c:Nat))) (bs.data.toList.map fun c=>[hC .u8 c.toNat]):=by
    rcases N with rfl|B
    ·generalize bs.data.toList=l
     induction l with
     |nil=>exact ij.2 rfl
     |cons a r F=>exact qc.2 ⟨_,_,rfl,by simp[br,aY],rfl,F⟩
    ·rw[B];exact ij.2 rfl
   refine⟨_,h,by rw[cV];intro v i;simp at i;obtain⟨a,_,rfl⟩:=i;simp[aE],by simp[fw],fun w' _ m _=>?_⟩;have e:((bs.data.toList.map fun c=>[hC .u8 c.toNat]).take m).flatten=(bs.data.toList.take m).map fun c=>hC .u8 c.toNat:=by
    rw[<-i3];generalize bs.data.toList.take m=l
    induction l with
    |nil=>rfl
    |cons a r F=>simp[F]
   rw[e];simp only[fl,ht];congr 1;apply b5;simp[ByteArray.data_extract]
  |_=>simp[gJ]at g
 |sl b az ai off len=>
  simp only[gJ]at g
  split at g
  case h_2=>simp at g
  rename_i k T R f D
  split at g
  case isFalse=>simp at g
  rename_i hc;obtain⟨rfl,rfl,C⟩:=hc;simp at g;subst g;simp only[aA,bO,bR]at i;obtain⟨_,v2,v3⟩:=i.2 k f D;have M:((f.drop off).take len).length=len:=by simp;omega
  by_cases A:dd k f
  ·rw[v2 A];have L:=A.2;subst L;simp at C;obtain⟨rfl,rfl⟩:=C;exact⟨[],ij.2 (by simp),by simp[aX],rfl,fun w' _ m j=>by simp[fl]⟩
  ·rw[v3 A];rcases I.cJ b _ D with hold|⟨cs,Q,d,rest,k1,k2,k3,k4,k5,k6⟩
   ·exact(A hold).elim
   obtain⟨x,y,z,e1,e2,e3,e4,e5⟩:=jD k2 off len C;have o:Row P w ad β H sz ((f.drop off).take len) y:=by
    by_cases n:(f.drop off).take len=[]
    ·rw[n]at e2⊢;rw[ij]at e2⊢;exact e2
    ·rw[<-sD e2 hs n];exact e2
   refine⟨y,o,?_,by rw[M];rfl,fun w' q m j=>?_⟩
   ·rw[cV];intro v i;exact cV.1 (I.refs b _ D) v (hR (hN i))
   ·refine uf (G m o j) (cells w' q ?_ m);rw[<-e3];exact lF k1 (post:=z.flatten++rest) (by rw[k3,e1];simp)
 |_=>simp[gJ]at g
theorem U7{T X e:dq}{i:ec}{f:dl}{sz:Nat}(a:pZ P T sz e i)(b:iI P X=true)(y:i.zero=some f)(A:dq){p:Option Addr}{sLen sCap n:Nat}{j h:Array dl}(x:dl)
 (hx:fw x=pure n)(s:(fl sz sLen (.slice p sLen sCap)).run P w.drew=.ok j w.drew)(aS:(fl sz n x).run P w.drew=.ok h w.drew)(q:sCap<sLen+n)(g:sLen+n<=cW):
 ∃cap,sLen+n<=cap/\(fm #[T,X] A #[.slice p sLen sCap,x]).run P w=
  .ok (.slice (some ⟨w.heap.size,0,none⟩) (sLen+n) cap) {w.drew with heap:=w.heap.push (.cells (j++h++gb f.cells (cap-(sLen+n))) e)}:=by
 refine⟨grownCap w (sLen+n) sCap e,by simp[grownCap,Question.cut],?_⟩;have o:∃d,P.underlying X=some d/\∀k,d≠.int k:=by
  unfold iI at b
  split at b
  ·simp at b
  ·rename_i d c v;exact⟨_,v,c⟩
  ·simp at b
 obtain⟨d,c,B⟩:=o;have r:¬(sLen+n<=sCap):=by omega
 have m:¬(9223372036854775807<((sLen:Int)+(n:Int))):=by unfold cW at g;omega
 have C:gc (sLen+n) sCap*i.bytes<=281474976710656:=by
  refine growslice_fits q ?_;have:=jp g (Nat.le_of_lt a.bytes);unfold cW at this;omega
 have l:¬(281474976710656<gc (sLen+n) sCap*i.bytes):=by omega
 have t:(sizeOf e).run P w=.ok sz w:=a.run w;have u:∀w:ea,(typeInfo e).run P w=.ok i w:=fun w=>by simp[typeInfo,a.info]
 have z:∀w:ea,(zeroValue e).run P w=.ok f w:=fun w=>by simp[zeroValue,typeInfo,a.info,y]
 simp[fm,dk a.gl,dk c,t,u,z,hx,r,m,l,Question.forced,s,aS,newRow,grownCap,Array.append_assoc];rfl
theorem Hg{T X e:dq}{i:ec}{sz:Nat}(j:pZ P T sz e i)(c:iI P X=true)(t:dq){g off:Nat}{sLen sCap n:Nat}{b:Array dl}{h:dq}{a:List dl}(x:dl)
 (hx:fw x=pure n)(o:w.heap[g]?=some (.cells b h (0,0)))(aS:(fl sz n x).run P w=.ok a.toArray w)(l:∀u∈a,u.oneCell'=true)(q:sLen+n<=sCap)(p:off+sLen*sz+a.length<=b.size):
 (fm #[T,X] t #[.slice (some ⟨g,off,none⟩) sLen sCap,x]).run P w=
  .ok (.slice (some ⟨g,off,none⟩) (sLen+n) sCap) (w.setRow g (b.toList.take (off+sLen*sz)++a++b.toList.drop (off+sLen*sz+a.length)).toArray):=by
 have m:∃d,P.underlying X=some d/\∀k,d≠.int k:=by
  unfold iI at c
  split at c
  ·simp at c
  ·rename_i d f s;exact⟨_,s,f⟩
  ·simp at c
 obtain⟨d,f,v⟩:=m;have aN:=eo P g (off+sLen*sz) h a 0 b w o (by simpa using p) l;simp only[i9]at aN;have r:(sizeOf e).run P w=.ok sz w:=j.run w;simp[fm,dk j.gl,dk f,r,hx,q,aS,j0,aN]
theorem T3{T X e:dq}{i:ec}{sz:Nat}(f:pZ P T sz e i)(b:iI P X=true)(m:dq){p:Option Addr}{sLen sCap:Nat}(x:dl)
 (hx:fw x=pure 0)(aS:(fl sz 0 x).run P w=.ok #[] w)(g:sLen<=sCap):
 (fm #[T,X] m #[.slice p sLen sCap,x]).run P w=.ok (.slice p sLen sCap) w:=by
 have j:∃d,P.underlying X=some d/\∀k,d≠.int k:=by
  unfold iI at b
  split at b
  ·simp at b
  ·rename_i d c l;exact⟨_,l,c⟩
  ·simp at b
 obtain⟨d,c,n⟩:=j;have h:(sizeOf e).run P w=.ok sz w:=f.run w;cases p with
 |none=>simp[fm,dk f.gl,dk c,h,hx,g,aS]
 |some a=>simp[fm,dk f.gl,dk c,h,hx,g,aS,storeCells]
theorem bY.drew{aF:Nat->Prop}{w1 w':ea}{aK:Bd}{H':aj}(a:w1.heap=w.heap)(b:w1.os=w.os/\w1.output=w.output)(h:bY P ah ad w1 β H aF w' aK H'):bY P ah ad w β H aF w' aK H':=
 ⟨h.bQ,h.fresh,⟨by rw[<-a];exact h.ext.size,fun k hk=>by rw[<-a];exact h.ext.same k hk,h.ext.io.1.trans b.1,h.ext.io.2.trans b.2⟩,h.step,h.rel,h.eP,h.loop⟩
theorem So(z:Array dl)(n:Nat):(gb z n).size=n*z.size:=by simp[gb]
theorem u5{ai:Nat}:∀{b:List AV}{a:List (List dl)},Row P w ad β H ai b a->∀c∈a.flatten,c.oneCell'=true
 |[],a,h=>by rw[ij]at h;subst h;simp
 |v::b,a,h=>by
  rw[qc]at h;obtain⟨c,cs,rfl,d,_,e⟩:=h;intro x hx;simp only[hT,h6]at hx;exact hx.elim (yp d x) (u5 e x)
theorem Row.mono{w':ea}{aF:Nat->Prop}{aK:Bd}{H':aj}(hI:∀k,ad k->aF k)(hs:∀k,ad k->w'.heap[k]?=w.heap[k]?)(aN:cw β H aK H'){ai:Nat}{a:List AV}{b:List (List dl)}(c:aX (aJ H) a)
 (h:Row P w ad β H ai a b):Row P w' aF aK H' ai a b:=bM.mono hI hs aN _ _ _ c h
theorem xk{c:Call}{s x:dp}(e:o.op= .call c)(hc:c.callee= .builtin .append)(b:c.args.toList=[s,x]){a:dp->dl}{w w':ea}{v:dl}
 (h:(fm c.argTypes o.type #[a s,a x]).run P w=.ok v w'):(dz a o).run P w=.ok (.value v) w':=by
 have d:c.args=#[s,x]:=by apply b5;simpa using b
 simp only[dz,e,resolve,hc,d];simp[invoke,builtin,h]
theorem VA{c:Call}{s x:dp}(e:o.op= .call c)(hc:c.callee= .builtin .copy)(b:c.args.toList=[s,x]){a:dp->dl}{w w':ea}{v:dl}
 (h:(ge c.argTypes o.type #[a s,a x]).run P w=.ok v w'):(dz a o).run P w=.ok (.value v) w':=by
 have d:c.args=#[s,x]:=by apply b5;simpa using b
 simp only[dz,e,resolve,hc,d];simp[invoke,builtin,h]
end
section
variable{P:eb}{w:ea}{ad ah:Nat->Prop}{β:Bd}{H:aj}
variable{o:Oper}{ρ:dp->AV}{base:Nat}
theorem wZ{c:Call}{s x:dp}(D:o.op= .call c)(hc:c.callee= .builtin .append)(y:c.args.toList=[s,x]){T X e:dq}(I:c.argTypes=#[T,X]){i:ec}{j:dl}{sz:Nat}(u:pZ P T sz e i)(v:iI P X=true)
 (L:i.zero=some j)(M:j.cells.size=sz)(F:bU P w ad β H ah){g:dp->dl}{p:Option Addr}{b f:Nat}{olds a:List AV}{ocss:List (List dl)}(hs:g s=.slice p b f)(m:olds.length=b)(l:Row P w ad β H sz olds ocss)(E:aX (aJ H) olds)
 (C:(fl sz b (.slice p b f)).run P w.drew=.ok ocss.flatten.toArray w.drew)
 (hx:gJ H (ρ x)=some a)(K:aA P w ad β H (ρ x) (g x))(J:aE (aJ H) (ρ x))(G:eM P sz a)(A:f<b+a.length)(B:b+a.length<=cW):
 ∃cap cells d N,(dz g o).run P w=.ok (.value (.slice (some ⟨w.heap.size,0,none⟩) (b+a.length) cap)) {w.drew with heap:=w.heap.push (.cells cells e)}/\
  Row P w ad β H sz (olds++a) d/\aX (aJ H) (olds++a)/\cells.toList=d.flatten++N/\cells.size=cap*sz/\(olds++a).length<=cap:=by
 obtain⟨d,h,q,r,t⟩:=uV hx F K J G;have k:=t w.drew rfl a.length (i5 _);have O:d.length=a.length:=(fJ h).1;rw[hW (by omega)]at k;obtain⟨cap,z,n⟩:=U7 u v L o.type (sLen:=b) (sCap:=f) (p:=p) (g x) r C k A B;rw[<-I,<-hs]at n;refine⟨cap,_,ocss++d,(gb j.cells (cap-(b+a.length))).toList,xk D hc y n,kJ.2 ⟨_,_,rfl,l,h⟩,jC E q,by simp,?_,by simpa[m]using z⟩;have e1:=(fJ l).2;have e2:=(fJ h).2;simp only[Array.size_append,h5,So,M,e1,e2,m,<-i8];congr 1;omega
theorem tq{T:dq}:gk P T≠.frozen/\gk P T≠.exact:=by
 unfold gk;split<;>simp
theorem DD{T e:dq}(h:dY P T=e)(hk:gk P T=.bytes):e=Gl.u8:=by
 unfold gk at hk
 split at hk
 ·rename_i a;rw[<-h];exact a
 ·cases hk
theorem BH{_o':Obj}{k:AK}{a:List AV}{b:List (List dl)}{r:List dl}{cells:Array dl}{e:dq}{cap sz:Nat}(j:bU P w ad β H ah)(c:H[base]?=some .hole)
 (g:k≠.frozen)(i:¬dd k a)(m:Row P w ad β H sz a b)(d:aX (aJ H) a)(hc:cells.toList=b.flatten++r)(o:cells.size=cap*sz)(h:a.length<=cap)(f:k=.exact->cap=a.length)(p:k=.bytes->e=Gl.u8):
 bY P ah ad w β H ad {w.drew with heap:=w.heap.push (.cells cells e)} (β.at base w.heap.size cap) (bc H ([]++newAt base [.arr k 0 sz a]))/\
 aA P {w.drew with heap:=w.heap.push (.cells cells e)} ad (β.at base w.heap.size cap) (bc H ([]++newAt base [.arr k 0 sz a])) (.sl base 0 sz 0 a.length) (.slice (some ⟨w.heap.size,0,none⟩) a.length cap)/\
 aE (aJ (bc H ([]++newAt base [.arr k 0 sz a]))) (.sl base 0 sz 0 a.length):=by
 have l:bU P w.drew ad β H ah:=bU.xI (w:=w) (w':=w.drew) rfl j;have n:Row P w.drew ad β H sz a b:=Row.mono (w:=w) (w':=w.drew) (fun _ x=>x) (fun _ _=>rfl) (cw.refl _ _) d m;obtain⟨q1,q⟩:=A9 (T:=e) (k:=k) l c g i n d hc o h f p;rw[lA];exact⟨bY.drew (w1:=w.drew) rfl ⟨rfl,rfl⟩ q1,q,⟨_,hF (hE.1 c).1,i5 _⟩⟩
theorem JG{b:Nat}{k k':AK}{az ai:Nat}{g es':List AV}{an cap:Nat}(e:H[b]?=some (.arr k az ai g)):cw β H (β.at b an cap) (H.set b (.arr k' (az+1) ai es')):=by
 have i:b<H.length:=(hE.1 e).1;have c:∀x,x≠b->(H.set b (.arr k' (az+1) ai es'))[x]?=H[x]?:=fun x hx=>h0 (Ne.symm hx);have a:(H.set b (.arr k' (az+1) ai es'))[b]?=some (.arr k' (az+1) ai es'):=hF i;refine⟨?_,?_,?_,?_,?_⟩
 ·rintro x _ ⟨fz,t,h⟩
  by_cases hx:x=b
  ·subst hx;rw[a]at h;cases h
  ·rw[c x hx]at h;exact⟨⟨fz,t,h⟩,by simp[Bd.at,hx]⟩
 ·rintro x _ ⟨fz,t,h⟩
  by_cases hx:x=b
  ·subst hx;rw[a]at h;cases h
  ·rw[c x hx]at h;exact⟨⟨fz,t,h⟩,by simp[Bd.at,hx]⟩
 ·rintro x _ ⟨fz,t,h⟩
  by_cases hx:x=b
  ·subst hx;rw[a]at h;cases h
  ·rw[c x hx]at h;exact⟨⟨fz,t,h⟩,by simp[Bd.at,hx]⟩
 ·intro x v z l f hi h;unfold fg at h
  by_cases hx:x=b
  ·subst hx;rw[a]at h;cases h;obtain⟨m,d,j⟩:=hi;simp only at d;rw[e]at d;cases d;simp only[Obj.has]at j;omega
  ·rw[c x hx]at h;exact⟨l,f,h,i5 _,Iff.rfl,fun _=>by simp[Bd.at,hx]⟩
 ·rintro x _ ⟨L,h⟩
  by_cases hx:x=b
  ·subst hx;rw[a]at h;cases h
  ·rw[c x hx]at h;exact⟨⟨L,h⟩,by simp[Bd.at,hx]⟩
theorem Bd.VL(β:Bd)(b:Nat):β.at b (β.an b) (β.cap b)=β:=by
 cases β with
 |mk an cap=>
  simp only[Bd.at,Bd.mk.injEq];constructor
  ·funext x;split
   ·rename_i h;rw[h]
   ·rfl
  ·funext x;split
   ·rename_i h;rw[h]
   ·rfl
theorem AX{α:Type}(A M Z X:List α):(A++M++Z).take A.length++X++(A++M++Z).drop (A.length+M.length)=A++X++Z:=by
 rw[hM A M Z,List.take_left,<-hM,<-hH,List.drop_left]
theorem Vq{c:Call}{s x:dp}(Y:o.op= .call c)(hc:c.callee= .builtin .append)(W:c.args.toList=[s,x])(bT:c.argTypes.size=2){H0:aj}{K:aW->Prop}
 (h:nq P (c.argTypes.getD 0 0) (c.argTypes.getD 1 0) H0 (ρ s) (ρ x) K):
 ∃e,K e/\bw P o ρ H0.length e/\(∀p∈e.al,H0[p.1]?=some p.2)/\(∀p∈e.aM,p.1<H0.length/\p.2≠.hole):=by
 obtain⟨T,X,S⟩:∃T X,c.argTypes=#[T,X]:=by
  obtain⟨l,I⟩:∃l,l=c.argTypes.toList:=⟨_,rfl⟩
  have af:l.length=2:=by rw[I];simpa using bT
  match l,af with
  |[a,b],_=>exact⟨a,b,by apply b5;simp[<-I]⟩
 have B:s∈o.op.operands/\x∈o.op.operands:=by
  have bF:c.args=#[s,x]:=by apply b5;simpa using W
  rw[Y];simp[g8,Call.operands,hc,bF]
 have e1:c.argTypes.getD 0 0=T:=by rw[S];rfl
 have e2:c.argTypes.getD 1 0=X:=by rw[S];rfl
 rw[e1,e2]at h;unfold nq at h
 split at h
 case h_2=>exact h.elim
 rename_i sz g F hx;obtain⟨ag,a9,am,h⟩:=h;obtain⟨e,i,F⟩:=jV F;obtain⟨z,a9⟩:=j5.1 a9;obtain⟨b3,b0,z1,z2,z3,z4⟩:=pT a9;rw[F.pL]at z1 z4;rw[F.info]at z1;cases z1;have aV:b0.cells.size=sz:=by
  obtain⟨_,i2,k1,k2⟩:=w8 (v:=.p z) (w:=default) (ad:=fun _=>False) (β:=⟨id,id⟩) (H:=[]) z4 (by simp only[br];exact z3 _ _);rw[F.info]at k1;cases k1;have:=F.size;simp at k2;omega
 have bb:∀{al:List (Nat×Obj)},(∀p∈dB H0 (ρ x),p∈al)->(∀p∈al,H0[p.1]?=some p.2)->g=[]->(∀(H:aj)(w:ea)(ad ah:Nat->Prop)(β:Bd)(v:dl),bU P w ad β H ah->(∀p∈al,H[p.1]?=some p.2)->aA P w ad β H (ρ s) v->∃p a b,v= .slice p a b/\a<=b)->
  bw P o ρ H0.length {v:=ρ s,al}:=by
  intro al bS av bV bP;subst bV;refine bw.same fun H w ad ah β au f j al=>?_;obtain⟨p,a,b,u,bE⟩:=bP H w ad ah β _ f al (j s B.1).1;obtain⟨E,C,af,bB,bC⟩:=uV (abi hx (fun p u=>al p (bS p u))) f (j x B.2).1 (j x B.2).2 am;have bj:=bC w rfl 0 (i5 _);simp only[List.take_zero,iz]at bj;have R:=T3 F ag o.type (p:=p) (sLen:=a) (sCap:=b) _ bB bj bE;rw[<-S,<-u]at R;exact⟨_,xk Y hc W R,by rw[u];exact u▸(j s B.1).1,(j s B.1).2⟩
 have ba:∀l:List AV,l.isEmpty=true->l=[]:=fun l h=>by simpa using h
 split at h
 ·
  rename_i hs
  split at h
  ·rename_i G;refine⟨_,h,?_,mV,by simp⟩;exact bb (fun p u=>u) mV (ba _ G) (fun H w ad ah β v _ _ A=>by rw[hs]at A;simp only[aA,aD]at A;exact⟨_,_,_,A,i5 _⟩)
  ·rename_i G;obtain⟨bo,h⟩:=h;refine⟨_,h,?_,mV,by simp⟩;intro H w ad ah β au f j al aH;have ak:H[H0.length]?=some .hole:=by simpa using aH 0 (by simp)
   have Q:=(j s B.1).1;rw[hs]at Q;simp only[aA,aD]at Q;have bq:0<g.length:=h2.2 (by simpa using G);obtain⟨cap,cells,E,D,ab,ao,ac,ap,aq,ar⟩:=wZ Y hc W S F ag z2 aV f Q (olds:=[]) (ocss:=[]) rfl (ij.2 rfl) (by simp[aX]) (by simp[fl])
    (abi hx al) (j x B.2).1 (j x B.2).2 am (by omega) (by omega)
   obtain⟨q1,Z,aa⟩:=BH (base:=H0.length) (k:=gk P T) (e:=e) (_o':=.hole) f ak tq.1 (fun q=>G (by simpa using q.2)) ao ac ap aq ar (fun h=>(tq.2 h).elim) (DD F.pL);simp only[i0,j2]at ab q1 Z aa;exact⟨_,_,_,_,ad,ab,.inl rfl,q1,Z,aa⟩
 ·
  rename_i full d hs;obtain⟨bG,h⟩:=h
  have Q:∀{H:aj}{w:ea}{ad:Nat->Prop}{β:Bd}{v:dl},aA P w ad β H (ρ s) v->∃p c N,v= .slice p d.length c/\d.length<=c/\(full=true->c=d.length)/\Row P w ad β H sz (d.map .p) N/\
   (∀w':ea,w'.heap=w.heap->(fl sz d.length v).run P w'=.ok N.flatten.toArray w'):=by
   intro H w ad β v A;rw[hs]at A;simp only[aA,aD]at A;obtain⟨an,off,cap,ai,E,v1,v2,v3,v4,v5,sp,bQ,rfl⟩:=A;rcases bQ with rfl|rfl
   case inr=>
    obtain rfl:d=[]:=hL.1 (by omega);exact⟨_,_,[],rfl,by simp,by simp,ij.2 rfl,fun w' _=>AN⟩
   have aM:Row P w ad β H ai (d.map .p) E:=lL.2 v1;have bv:Row P w ad β H sz (d.map .p) E:=by
    by_cases bp:d.map AV.p=[]
    ·rw[bp]at aM⊢;rw[ij]at aM⊢;exact aM
    ·rw[<-sD aM bG bp];exact aM
   refine⟨_,_,E,rfl,v5,v4,bv,fun w' a8=>uf (by have:=(fJ bv).2;simpa using this) (v3.same (by rw[a8]))⟩
  split at h
  ·rename_i G;refine⟨_,h,?_,mV,by simp⟩;exact bb (fun p u=>u) mV (ba _ G) (fun H w ad ah β v _ _ A=>by obtain⟨p,c,_,C,af,_⟩:=Q A;exact⟨p,_,c,C,af⟩)
  ·rename_i G;obtain⟨hf,bo,h⟩:=h;refine⟨_,h,?_,mV,by simp⟩;intro H w ad ah β au f j al aH;have ak:H[H0.length]?=some .hole:=by simpa using aH 0 (by simp)
   have bq:0<g.length:=h2.2 (by simpa using G);obtain⟨p,cp,N,s1,s2,bX,bZ,bA⟩:=Q (j s B.1).1;rw[s1]at bA;obtain⟨cap,cells,E,D,ab,ao,ac,ap,aq,ar⟩:=wZ Y hc W S F ag z2 aV f s1 (olds:=d.map .p) (by simp) bZ (iO _ _) (bA w.drew rfl)
    (abi hx al) (j x B.2).1 (j x B.2).2 am (by have:=bX hf;omega) (by omega)
   obtain⟨q1,Z,aa⟩:=BH (base:=H0.length) (k:=gk P T) (e:=e) (_o':=.hole) f ak tq.1 (fun q=>G (by have:=q.2;simp at this;simp[this.2])) ao ac ap aq ar (fun h=>(tq.2 h).elim) (DD F.pL);simp only[hH,List.length_map]at Z aa;exact⟨_,_,_,_,ad,ab,.inl rfl,q1,Z,aa⟩
 ·
  rename_i b az ai off len hs
  split at h
  case h_2=>exact h.elim
  rename_i k b4 b1 d a6;obtain⟨rfl,rfl,rfl,hlen,h⟩:=h;have av:∀p∈(b,Obj.arr k az ai d)::dB H0 (ρ x),H0[p.1]?=some p.2:=by
   intro p u;rcases hU.1 u with rfl|u
   ·exact a6
   ·exact mV p u
  have Q:∀{H:aj}{w:ea}{ad ah:Nat->Prop}{β:Bd}{v:dl},bU P w ad β H ah->H[b]?=some (.arr k az ai d)->aA P w ad β H (ρ s) v->
   (dd k d/\v=.slice none 0 0/\len=0)\/(¬dd k d/\v=.slice (some ⟨β.an b,off*ai,none⟩) len (β.cap b-off)/\
   ∃cs T E D,w.heap[β.an b]?=some (.cells cs T (0,0))/\Row P w ad β H ai d E/\cs.toList=E.flatten++D/\
   cs.size=β.cap b*ai/\d.length<=β.cap b/\(k=.exact->β.cap b=d.length)/\cG ad β ah (k== .frozen) b/\(k=.bytes->T=Gl.u8)):=by
   intro H w ad ah β v f t A;rw[hs]at A;simp only[aA,bO,bR]at A;obtain⟨_,v2,v3⟩:=A.2 k d t
   by_cases q:dd k d
   ·exact .inl ⟨q,v2 q,by have:=q.2;subst this;simp at hlen;omega⟩
   ·rcases f.cJ b _ t with hold|⟨cs,O,E,D,k1,k2,k3,k4,k5,k6,k7,k8⟩
    ·exact(q hold).elim
    ·exact .inr ⟨q,v3 q,cs,O,E,D,k1,k2,k3,k4,k5,k6,k7,k8.2⟩
  have holds:∀{H:aj}{w:ea}{ad:Nat->Prop}{β:Bd}{cs:Array dl}{O:dq}{E:List (List dl)}{D:List dl},w.heap[β.an b]?=some (.cells cs O (0,0))->Row P w ad β H ai d E->cs.toList=E.flatten++D->
   ∃N,Row P w ad β H ai ((d.drop off).take len) N/\∀(w':ea)(n c:Nat),w'.heap=w.heap->(fl ai len (.slice (some ⟨β.an b,off*ai,none⟩) n c)).run P w'=.ok N.flatten.toArray w':=by
   intro H w ad β cs O E D k1 k2 k3;obtain⟨a,m,z,g1,g2,g3,g4,g5⟩:=jD k2 off len hlen;refine⟨m,g2,fun w' n c a8=>uf (by have:=(fJ g2).2;rw[this];congr 1;simp;omega) ?_⟩;have:=lF k1 (pre:=a.flatten) (xs:=m.flatten) (post:=z.flatten++D) (by rw[k3,g1];simp);rw[g3]at this;exact this.same (by rw[a8])
  split at h
  ·rename_i G;refine⟨_,h,?_,av,by simp⟩;refine bb (fun p u=>hO _ u) av (ba _ G) (fun H w ad ah β v f al A=>?_);rcases Q f (al (b,_) (by simp)) A with⟨_,C,_⟩|⟨q,C,cs,O,E,D,af⟩
   ·exact⟨_,_,_,C,i5 _⟩
   ·exact⟨_,_,_,C,by omega⟩
  ·rename_i G;have bq:0<g.length:=h2.2 (by simpa using G);obtain⟨bo,h⟩:=h
   split at h
   ·exact h.elim
   ·
    split at h
    ·rename_i ax;refine⟨_,h,?_,av,by simpa using(hE.1 a6).1⟩;intro H w ad ah β au f j al _;have t:H[b]?=some (.arr .exact az ai d):=al (b,_) (by simp);rcases Q f t (j s B.1).1 with⟨q,_⟩|⟨q,C,cs,O,E,D,k1,k2,k3,k4,k5,k6,k7,k8⟩
     ·cases q.1
     obtain⟨M,V,bd,be,bf⟩:=uV (abi hx (fun p u=>al p (hO _ u))) f (j x B.2).1 (j x B.2).2 am;have aP:=bf w rfl g.length (i5 _);rw[hW (by have:=(fJ V).1;omega)]at aP;have bm:=k6 rfl;obtain⟨a,m,ae,g1,g2,g3,g4,g5⟩:=jD k2 (off+len) g.length ax;have ay:=(fJ V).2;have aw:m.flatten.length=g.length*ai:=by have:=(fJ g2).2;rw[this];congr 1;simp;omega
     have aQ:cs.toList=a.flatten++m.flatten++(ae.flatten++D):=by rw[k3,g1];simp
     have bl:a.flatten.length=off*ai+len*ai:=by rw[g3,i8]
     have bx:cs.size=a.flatten.length+m.flatten.length+(ae.flatten++D).length:=by
      have:=congrArg hZ aQ;simp only[hH,cy]at this;rw[this,hH]
     have R:=Hg F ag o.type (sLen:=len) (sCap:=β.cap b-off) _ be k1 aP (u5 V) (by omega) (by rw[ay,bx,bl,aw];exact Nat.le_add_right _ _);rw[<-S,<-C]at R;have aS:cs.toList.take (off*ai+len*ai)++M.flatten++cs.toList.drop (off*ai+len*ai+M.flatten.length)=a.flatten++M.flatten++(ae.flatten++D):=by
      rw[aQ,<-bl,ay,<-aw];exact AX _ _ _ _
     rw[aS]at R;have aN:cw β H β (H.set b (.arr .exact az ai (d.take (off+len)++g++d.drop (off+len+g.length)))):=oH t (.inr (.inl ⟨_,_,_,_,_,rfl,rfl,by simp;omega⟩));have aG:¬ad (β.an b)/\¬ah (β.an b):=by
      unfold cG at k7;rw[if_neg (by simp)]at k7;exact k7
     have a7:∀J,ad J->(w.setRow (β.an b) (a.flatten++M.flatten++(ae.flatten++D)).toArray).heap[J]?=w.heap[J]?:=fun J a3=>ed w _ J _ (fun a2=>aG.1 (a2▸a3));have hrefs:aX (aJ H) (d.take (off+len)++g++d.drop (off+len+g.length)):=by
      have bs:=cV.1 (f.refs b _ t);refine jC (jC ?_ bd) ?_
      ·rw[cV];exact fun v A=>bs v (hN A)
      ·rw[cV];exact fun v A=>bs v (hR A)
     have aR:=lM t (o:=.arr .exact az ai (d.take (off+len)++g++d.drop (off+len+g.length))) (fun _ h=>h);have a4:(d.take (off+len)++g++d.drop (off+len+g.length)).length=d.length:=by simp;omega
     have aL:=pR f t q (o':=.arr .exact az ai (d.take (off+len)++g++d.drop (off+len+g.length))) (fun U=>by cases U.1) (fun _ h=>h) k1 (new:=(a.flatten++M.flatten++(ae.flatten++D)).toArray) aG aN
      (.inr ⟨_,O,a++M++ae,D,ei w _ _ _ O _ k1,by
       refine Row.mono (fun _ x=>x) a7 aN hrefs (kJ.2 ⟨_,_,rfl,kJ.2 ⟨_,_,rfl,g4,V⟩,g5⟩),by simp,by
       rw[<-k4,bx];simp only[h5,hH,ay,aw],by rw[a4];exact k5,fun _=>by rw[a4];exact bm,k7,(fun aT=>by cases aT),k8⟩) (aX.mono aR _ hrefs)
     refine⟨_,_,_,β,ad,xk Y hc W R,.inl rfl,aL,?_,?_⟩
     ·simp only[aA,bO,bR,bc,newAt,hS];refine⟨by simp[hB],fun J bh I=>?_⟩;unfold fg at I;rw[hF (hE.1 t).1]at I;cases I;exact⟨by rw[a4];omega,(fun U=>by cases U.1),fun _=>trivial⟩
     ·simp only[aE];exact⟨_,hF (hE.1 t).1,i5 _⟩
    ·rename_i ax;refine⟨_,h,?_,av,by simp⟩;intro H w ad ah β au f j al aH;have ak:H[H0.length]?=some .hole:=by simpa using aH 0 (by simp)
     have t:H[b]?=some (.arr .exact az ai d):=al (b,_) (by simp);rcases Q f t (j s B.1).1 with⟨q,_⟩|⟨q,C,cs,O,E,D,k1,k2,k3,k4,k5,k6,k7,k8⟩
     ·cases q.1
     have bm:=k6 rfl;obtain⟨N,aO,aY⟩:=holds k1 k2 k3;have bn:((d.drop off).take len).length=len:=by simp;omega
     obtain⟨cap,cells,bg,bz,ab,ao,ac,ap,aq,ar⟩:=wZ Y hc W S F ag z2 aV f C (olds:=(d.drop off).take len) bn aO
      (by rw[cV];exact fun v A=>cV.1 (f.refs b _ t) v (hR (hN A))) (aY w.drew _ _ rfl)
      (abi hx (fun p u=>al p (hO _ u))) (j x B.2).1 (j x B.2).2 am (by omega) (by omega)
     obtain⟨q1,Z,aa⟩:=BH (base:=H0.length) (k:=gk P T) (e:=e) (_o':=.hole) f ak tq.1 (fun q=>G (by have:=q.2;simp at this;simp[this.2])) ao ac ap aq ar (fun h=>(tq.2 h).elim) (DD F.pL);rw[hH,bn]at Z aa;exact⟨_,_,_,_,ad,ab,.inl rfl,q1,Z,aa⟩
   ·
    rename_i bI bJ;obtain⟨rfl,bK,h⟩:=h;have aI:k≠.frozen:=fun e=>bI e;have aT:k≠.exact:=fun e=>bJ e;have b2:(k==AK.frozen)=false:=by simpa using aI
    refine⟨_,h,?_,av,by simpa using(hE.1 a6).1⟩;intro H w ad ah β au f j al _;have t:H[b]?=some (.arr k az ai d):=al (b,_) (by simp);have aB:b<H.length:=(hE.1 t).1;have aU:(d.take len).length=len:=by simp;omega
    have bu:aX (aJ H) (d.take len):=by rw[cV];exact fun v A=>cV.1 (f.refs b _ t) v (hN A)
    have a5:¬dd k (d.take len++g):=fun U=>G (by have:=U.2;simp at this;simp[this.2]);have aR:=lM t (o:=.arr k (az+1) ai (d.take len++g)) (fun v h=>by simp only[Obj.has]at h⊢;omega)
    have bi:∀(p:Option Addr)(a0:Nat)(N:List (List dl)),au s= .slice p len a0->Row P w ad β H ai (d.take len) N->(fl ai len (.slice p len a0)).run P w.drew= .ok N.flatten.toArray w.drew->a0<len+g.length->
     ∃n a1 w' aK aF,(dz au o).run P w=.ok n w'/\(n=.value a1\/n=.skip/\a1=undef)/\
      bY P ah ad w β H aF w' aK (H.set b (.arr k (az+1) ai (d.take len++g)))/\aA P w' aF aK (H.set b (.arr k (az+1) ai (d.take len++g))) (.sl b (az+1) ai 0 (len+g.length)) a1/\
      aE (aJ (H.set b (.arr k (az+1) ai (d.take len++g)))) (.sl b (az+1) ai 0 (len+g.length)):=by
     intro p a0 N C bM bL bH;obtain⟨cap,cells,bg,bz,ab,ao,ac,ap,aq,ar⟩:=wZ Y hc W S F ag z2 aV f C (olds:=d.take len) aU bM bu bL
      (abi hx (fun p u=>al p (hO _ u))) (j x B.2).1 (j x B.2).2 am bH (by omega)
     have aN:=JG (β:=β) (k':=k) (es':=d.take len++g) (an:=w.heap.size) (cap:=cap) t;have aL:bY P ah ad w β H ad {w.drew with heap:=w.heap.push (.cells cells e)} (β.at b w.heap.size cap) (H.set b (.arr k (az+1) ai (d.take len++g))):=by
      refine bY.set f aB (fun y bW=>by simp[Bd.at,bW]) (fun _ y=>y) (fun _ y=>.inl y) (fun k hk=>by have:=f.bQ k hk;simp;omega) (by simp)
       (fun k _ hk=>by simp[c6,j4 hk]) (fun _=>.inl (by simp[Bd.at])) aN
       (.inr ⟨cells,e,bg,bz,by simp[Bd.at],Row.mono (fun _ y=>y) (fun k hk=>by have:=f.bQ k hk;simp[c6,j4 this]) aN ac ao,ap,by simp[Bd.at,aq],by simpa[Bd.at]using ar,(fun aC=>(aT aC).elim),by
        unfold cG;rw[if_neg (by simpa using aI)];simp only[Bd.at,if_true];exact⟨fun h=>i6 _ (f.bQ _ h),fun h=>i6 _ (f.dU _ h)⟩,(fun aC=>(aI aC).elim),fun ak=>F.pL▸bK ak⟩)
       (aX.mono aR _ ac) (fun aO v C af=>by rw[t]at C;cases C;simp only[Obj.has]at af⊢;omega) (fun L bk=>by rw[t]at bk;cases bk)
     refine⟨_,_,_,_,ad,ab,.inl rfl,aL,?_,?_⟩
     ·simp only[aA,bO,bR];refine⟨by simp[hB],fun J bh I=>?_⟩;unfold fg at I;rw[hF aB]at I;cases I;exact⟨by rw[hH,aU];omega,fun U=>(a5 U).elim,fun _=>by simp[Bd.at]⟩
     ·simp only[aE];exact⟨_,hF aB,i5 _⟩
    simp only[bc,newAt,hS];rcases Q f t (j s B.1).1 with⟨q,C,rfl⟩|⟨q,C,cs,O,E,D,k1,k2,k3,k4,k5,k6,k7,k8⟩
    ·exact bi none 0 [] C (by simp[ij]) (by simp[fl]) (by omega)
    ·simp only[j1,j3]at C
     by_cases ax:len+g.length<=β.cap b
     ·
      obtain⟨M,V,bd,be,bf⟩:=uV (abi hx (fun p u=>al p (hO _ u))) f (j x B.2).1 (j x B.2).2 am;have aP:=bf w rfl g.length (i5 _);rw[hW (by have:=(fJ V).1;omega)]at aP;obtain⟨a,m,ae,g1,g2,g3,g4,g5⟩:=jD k2 0 len hlen;have bD:a=[]:=by have:=(fJ g4).1;simpa using this
      subst bD;have ay:=(fJ V).2;have aw:m.flatten.length=len*ai:=by have:=(fJ g2).2;rw[this];congr 1
      have aQ:cs.toList=m.flatten++(ae.flatten++D):=by rw[k3,g1];simp
      have bN:=Nat.mul_le_mul_right ai ax;rw[i8]at bN;have R:=Hg F ag o.type (off:=0) (sLen:=len) (sCap:=β.cap b) _ be k1 aP (u5 V) ax (by rw[ay,k4];omega);rw[<-S,<-C]at R;obtain⟨aZ,bt⟩:∃r,r=cs.toList.drop (len*ai+M.flatten.length):=⟨_,rfl⟩
      have aS:cs.toList.take (0+len*ai)++M.flatten++cs.toList.drop (0+len*ai+M.flatten.length)=(m++M).flatten++aZ:=by
       rw[j2,<-bt];congr 1;rw[aQ,<-aw];simp
      rw[aS]at R;have aG:¬ad (β.an b)/\¬ah (β.an b):=by
       unfold cG at k7;rw[if_neg (by simpa using aI)]at k7;exact k7
      have aN:cw β H β (H.set b (.arr k (az+1) ai (d.take len++g))):=by
       have:=JG (β:=β) (k':=k) (es':=d.take len++g) (an:=β.an b) (cap:=β.cap b) t
       rwa [Bd.VL]at this
      have a7:∀J,ad J->(w.setRow (β.an b) ((m++M).flatten++aZ).toArray).heap[J]?=w.heap[J]?:=fun J a3=>ed w _ J _ (fun a2=>aG.1 (a2▸a3));have hrefs:aX (aJ H) (d.take len++g):=jC bu bd;have aL:=pR f t q (o':=.arr k (az+1) ai (d.take len++g)) a5 (fun v h=>by simp only[Obj.has]at h⊢;omega) k1 (new:=((m++M).flatten++aZ).toArray) aG aN
       (.inr ⟨_,O,m++M,aZ,ei w _ _ _ O _ k1,by
        refine Row.mono (fun _ x=>x) a7 aN hrefs (kJ.2 ⟨_,_,rfl,?_,V⟩);simpa using g2,by simp,by
        rw[<-k4];simp only[h5,hH,h3,ay,aw,bt,List.length_drop,cy,k4];omega,by rw[hH,aU];exact ax,(fun aC=>(aT aC).elim),k7,(fun h=>(aI h).elim),k8⟩) (aX.mono aR _ hrefs)
      refine⟨_,_,_,β,ad,xk Y hc W R,.inl rfl,aL,?_,?_⟩
      ·simp only[aA,bO,bR];refine⟨by simp[hB],fun J bh I=>?_⟩;unfold fg at I;rw[hF aB]at I;cases I;exact⟨by rw[hH,aU];omega,fun U=>(a5 U).elim,fun _=>by simp⟩
      ·simp only[aE];exact⟨_,hF aB,i5 _⟩
     ·obtain⟨N,aO,aY⟩:=holds k1 k2 k3;simp only[List.drop_zero,j1]at aO aY;exact bi _ _ N C aO (aY w.drew _ _ rfl) (by omega)
 ·exact h.elim
end
section
variable{P:eb}{w:ea}{ad ah:Nat->Prop}{β:Bd}{H:aj}
variable{o:Oper}{ρ:dp->AV}{base:Nat}
def iQ(bs:ByteArray):List Nat:=bs.data.toList.map (·.toNat)
theorem AQ:∀{a b:List UInt8},a.map (·.toNat)=b.map (·.toNat)->a=b
 |[],[],_=>rfl
 |[],_::_,h=>by simp at h
 |_::_,[],h=>by simp at h
 |x::a,y::b,h=>by
  simp at h;rw[UInt8.toNat_inj.1 h.1,AQ h.2]
theorem bytes_beq(a b:ByteArray):(a.toList==b.toList)=(iQ a==iQ b):=by
 rw[gg,gg];unfold iQ
 by_cases h:a.data.toList=b.data.toList
 ·simp[h]
 ·have d:¬(a.data.toList.map (·.toNat)=b.data.toList.map (·.toNat)):=fun c=>h (AQ c)
  rw[beq_eq_false_iff_ne.2 h,beq_eq_false_iff_ne.2 d]
theorem GK:∀a b:List UInt8,hb a b=iZ (a.map (·.toNat)) (b.map (·.toNat))
 |[],[]=>rfl
 |_::_,[]=>rfl
 |[],_::_=>rfl
 |x::a,y::b=>by
  simp only[hb,hV,iZ,GK a b];congr 1
  ·congr 1
   by_cases h:x=y
   ·simp[h]
   ·have:¬x.toNat=y.toNat:=fun c=>h (UInt8.toNat_inj.1 c);rw[beq_eq_false_iff_ne.2 h,beq_eq_false_iff_ne.2 this]
theorem aHu{c:fb}{T j:dq}{x y:dp}{a b:List Nat}{K:PV->Prop}(g:o.op= .binOp c T x y j)(hx:ρ x= .p (.str a))(u:ρ y= .p (.str b))
 (h:pc c a b K)(al:List (Nat×Obj)):∃v,K v/\bw P o ρ base {v:=.p v,al}:=by
 have key:∀v,K v->(∀(w:ea)(ad:Nat->Prop)(s t:ByteArray),a=iQ s->b=iQ t->∃r,(hg c s t).run P w=.ok r w/\aD P w ad v r)->∃v,K v/\bw P o ρ base {v:=.p v,al}:=by
  intro v q n;refine⟨v,q,bw.same fun H w ad ah β C B i _=>?_⟩;have e:=(i x (by simp[g,g8])).1;have f:=(i y (by simp[g,g8])).1;rw[hx]at e;rw[u]at f;simp only[aA,LD]at e f;obtain⟨s,e1,e2⟩:=e;obtain⟨t,e3,e4⟩:=f;obtain⟨r,z,A⟩:=n w ad s t e2 e4;refine⟨r,?_,by simpa only[aA]using A,by simp[aE]⟩;simp only[dz,g,e1,e3];refine eL ?_;have l:(eqGuard c T x y (.string s) (.string t)).run P w=.ok () w:=by
   unfold eqGuard
   split<;>simp
  have k:(binOp c T (.string s) (.string t)).run P w=.ok r w:=by
   cases c<;>first|(simp[pc]at h;done)|exact z
  simp[l,k]
 have m:∀s t:ByteArray,a=iQ s->b=iQ t->hb s.toList t.toList=iZ a b/\(s.toList==t.toList)=(a==b):=by
  intro s t hs d;rw[bytes_beq,<-hs,<-d,GK,gg,gg];exact⟨by rw[hs,d];rfl,rfl⟩
 cases c<;>simp only[pc]at h
 case add=>
  refine key _ h.2 fun w ad s t hs d=>⟨.string (s++t),run_string_add_sum w s t ?_,?_⟩
  ·have e:a.length=s.size:=by rw[hs];simp[iQ]
   have f:b.length=t.size:=by rw[d];simp[iQ]
   omega
  ·rw[LD];exact⟨_,rfl,by rw[hs,d];simp[iQ,ByteArray.data_append]⟩
 case eql|neq|lss|leq|gtr|geq=>
  refine key _ h fun w ad s t hs d=>?_;obtain⟨e1,e2⟩:=m s t hs d;exact⟨_,by simp only[hg,e1,e2];rfl,by simp[aD]⟩
theorem SN{T:dq}(h:qC P T=true):P.underlying T=some .bool:=by
 unfold qC at h
 split at h
 ·assumption
 ·simp at h
theorem GA{T:dq}{a b:dl}{r:Bool}{w:ea}(h:(ha T a b).run P w= .ok r w)(d:(∃x,a= .bool x)\/(∃x,a= .agg x)\/(∃p n c,a= .slice p n c)\/(∃m,a= .map m)\/a= .nilFunc\/(∃f x y,a= .func f x y)\/(∃p,a= .pointer p)\/a= .nilIface):
 (binOp .eql T a b).run P w=.ok (.bool r) w/\(binOp .neq T a b).run P w=.ok (.bool !r) w:=by
 rcases d with⟨x,rfl⟩|⟨x,rfl⟩|⟨p,n,c,rfl⟩|⟨m,rfl⟩|rfl|⟨f,x,y,rfl⟩|⟨p,rfl⟩|rfl
 all_goals (constructor<;>(unfold binOp;simp[h]))
def ji.isAgg:ji->Bool
 | .agg _=>true
 |_=>false
theorem VQ{T:dq}{t:ji}(hk:kindOf P T=t)(a:t≠.bad)(w:ea):(isAgg T).run P w=.ok t.isAgg w:=by
 unfold kindOf at hk;cases hu:P.underlying T with
 |none=>rw[hu]at hk;simp at hk;exact(a hk.symm).elim
 |some d=>
  rw[hu]at hk;simp only[isAgg,hr,dk hu,hp];cases d<;>simp only at hk<;>(split at hk<;>first|(subst hk;rfl)|exact(a hk.symm).elim)
theorem uO{F:dq}{v:PV}{pre c post:List dl}{cs:Array dl}(hk:kindOf P F=aL v)(b:aY P w ad v c)(e:cs.toList=pre++c++post):
 ∃x,(part F cs pre.length).run P w=.ok x w/\aD P w ad v x:=by
 obtain⟨j,i,f,g⟩:=w8 (v:=.p v) (β:=⟨id,id⟩) (H:=[]) (w:=w) (ad:=ad) hk (by simpa only[br]using b);have d:=(oG b).2;have a:=VQ hk d w;cases hs:aL v with
 |bad=>exact(d hs).elim
 |leaf=>
  rw[hs]at a;obtain⟨x,rfl,hx⟩:=(sF hs c).1 b;refine⟨x,?_,hx⟩;have:cs[pre.length]?=some x:=by rw[<-cb,e];simp
  simp[part,a,this,ji.isAgg]
 |agg u=>
  rw[hs]at a;refine⟨.agg c.toArray,?_,(u6 hs c).1 b⟩;have h:(sizeOf F).run P w=.ok c.length w:=by simp[sizeOf,typeInfo,f,g]
  have:cs.extract pre.length (pre.length+c.length)=c.toArray:=by
   apply b5;rw[Array.toList_extract,e];simp[List.extract_eq_take_drop]
  simp[part,a,h,this,ji.isAgg]
theorem BF{n:Nat}{b:List Nat}{v:PV}{vs:List PV}{a:List (List dl)}(h:bk P w ad (n::b) (v::vs) a):∃c cs,a=c::cs/\aY P w ad v c/\c.length=n/\bk P w ad b vs cs:=by
 simpa only[bk]using h
theorem GI{eqF:dq->PV->PV->Option Bool}{d:Nat}(B:∀F a b r,eqF F a b=some r->kindOf P F=aL a->kindOf P F=aL b->∀x y,aD P w ad a x->aD P w ad b y->(g9 d F x y).run P w= .ok r w){X Y:Array dl}:
 ∀(fs:List e9)(l:List Nat)(j k:List PV)(r:Bool)(h m:List dl)(o p:List (List dl)),lX P eqF (fs.map (·.type)) j k=some r->fs.all (fun f=>f.name != "_")=true->
 (∀(i:Nat)(f:e9),fs[i]?=some f->f.offset=h.length+(l.take i).sum)->bk P w ad l j o->bk P w ad l k p->h.length=m.length->
 X.toList=h++o.flatten->Y.toList=m++p.flatten->(hd d X Y fs).run P w=.ok r w
 |[],l,j,k,r,h,m,o,p,e,_,_,_,_,_,_,_=>by
  cases j<;>cases k<;>simp[lX]at e;subst e;simp[hd]
 |f::fs,l,j,k,r,h,m,o,p,e,q,v,hx,K,A,t,hY=>by
  cases j with
  |nil=>simp[lX]at e
  |cons a j=>
   cases k with
   |nil=>simp[lX]at e
   |cons b k=>
    cases l with
    |nil=>simp[bk]at hx
    |cons n l=>
     simp only[hV,lX]at e
     split at e
     case isFalse=>simp at e
     rename_i hk
     split at e
     case h_2=>simp at e
     rename_i M N D E;simp at e;subst e;obtain⟨c,cs,rfl,hc,u,J⟩:=BF hx;obtain⟨c',s,rfl,G,H,L⟩:=BF K;simp only[List.all_cons,dg,bne_iff_ne]at q;have z:f.offset=h.length:=by simpa using v 0 f (by simp)
     obtain⟨x,C,Q⟩:=uO hk.1 hc (pre:=h) (post:=cs.flatten) (cs:=X) (by rw[t];simp);obtain⟨y,y1,y2⟩:=uO hk.2 G (pre:=m) (post:=s.flatten) (cs:=Y) (by rw[hY];simp);have e1:=B _ _ _ _ D hk.1 hk.2 x y Q y2;rw[<-z]at C;rw[<-A,<-z]at y1;have O:=GI B fs l j k N (h++c) (m++c') cs s E q.2 (by
      intro i g I;have:=v (i+1) g (by simpa using I);rw[this,List.take_succ_cons,List.sum_cons,hH,u];omega) J L (by simp[A,u,H]) (by rw[t];simp) (by rw[hY];simp)
     simp only[hd,q.1,ne_eq,not_false_eq_true,if_true,hr,C,y1,e1,hp];cases M with
     |false=>simp
     |true=>simpa using O
theorem BM:∀(n:Nat)(T:dq)(v v':PV)(r:Bool),iK P n T v v'=some r->∀x y,aD P w ad v x->aD P w ad v' y->∀d,n<=d->(g9 d T x y).run P w=.ok r w
 |0,_,_,_,_,h,_,_,_,_,_,_=>by simp[iK]at h
 |n+1,T,v,v',r,h,x,y,hx,g,d,J=>by
  obtain⟨d,rfl⟩:∃e,d=e+1:=⟨d-1,by omega⟩
  unfold iK at h
  split at h
  ·rename_i a b c;simp at h;subst h;simp only[aD]at hx g;subst hx;subst g;simp[g9,dk c]
  ·rename_i k0 k a K b c
   split at h
   case isFalse=>simp at h
   rename_i hk;subst hk;simp at h;subst h;simp only[aD]at hx g;subst hx;subst g;exact run_equalIn_int w d T k k0 a b c
  ·rename_i a b c;simp at h;subst h;simp only[aD]at hx g;obtain⟨s,rfl,hs⟩:=hx;obtain⟨t,rfl,B⟩:=g;rw[run_equalIn_string w d T s t c,bytes_beq,hs,B];rfl
  ·rename_i fs u E u' G c
   split at h
   case isFalse=>simp at h
   rename_i hc;obtain⟨hk,rfl,A,q⟩:=hc;simp only[aD]at hx g;obtain⟨l,o,k1,k2,rfl⟩:=hx;obtain⟨C,p,k3,k4,rfl⟩:=g;rw[k1]at k3;cases k3;obtain⟨I,C,s1,s2,L,m,M,D⟩:=ui (P:=P) (T:=T) (u:=u') (n:=fs.size) (by unfold eX;rw[hk,c]);rw[c]at s1;cases s1;rw[k1]at m;cases m;have j:P.fieldsOf T=fs:=by simp[ho,c]
   rw[run_equalIn_struct w d T _ _ (by rw[j];exact c) A,j];refine GI (eqF:=iK P n) (fun F a b r z _ _ x y hx g=>BM n F a b r z x y hx g d (by omega)) fs.toList l E G r [] [] o p h q ?_ k2 k4 rfl (by simp) (by simp);intro i f hf;have hi:i<fs.size:=by
    have:=(hE.1 hf).1;simpa using this
   obtain⟨H,g1,g2,_⟩:=D i hi;rw[cb,g1]at hf;cases hf;simpa using g2
  ·simp at h
end
section
variable{P:eb}{w:ea}{ad ah:Nat->Prop}{β:Bd}{H:aj}
variable{o:Oper}{ρ:dp->AV}{base:Nat}
theorem C0{d:fb}{T C:dq}{x y:dp}{r:Bool}{K:PV->Prop}{l:List (Nat×Obj)}(k:o.op= .binOp d T x y C)
 (D:d=.eql/\K (.bool r)\/d=.neq/\K (.bool !r))
 (I:∀(H:aj)(w:ea)(ad ah:Nat->Prop)(β:Bd)(a b:dl),bU P w ad β H ah->(∀p∈l,H[p.1]?=some p.2)->aA P w ad β H (ρ x) a->aA P w ad β H (ρ y) b->(ha T a b).run P w=.ok r w/\
  ((∃x,a=.bool x)\/(∃x,a=.agg x)\/(∃p n c,a=.slice p n c)\/(∃m,a=.map m)\/a=.nilFunc\/(∃f x y,a=.func f x y)\/(∃p,a=.pointer p)\/(a=.nilIface/\lZ y=true))/\(∀u v,a=.agg u->b=.agg v->P.eqGuardType P.depth T=false)):
 ∃v,K v/\bw P o ρ base {v:=.p v,al:=l}:=by
 have key:∀v,K v->(∀(w:ea)(a b:dl),(ha T a b).run P w= .ok r w->((∃x,a= .bool x)\/(∃x,a= .agg x)\/(∃p n c,a= .slice p n c)\/(∃m,a= .map m)\/a= .nilFunc\/(∃f x y,a= .func f x y)\/(∃p,a= .pointer p)\/a= .nilIface)->
  ∃q,v=.bool q/\(binOp d T a b).run P w=.ok (.bool q) w)->∃v,K v/\bw P o ρ base {v:=.p v,al:=l}:=by
  intro v J hq;refine⟨v,J,bw.same fun H w ad ah β s G t al=>?_⟩;obtain⟨L,z,A⟩:=I H w ad ah β _ _ G al (t x (by simp[k,g8])).1 (t y (by simp[k,g8])).1;obtain⟨q,rfl,F⟩:=hq w _ _ L (by rcases z with h|h|h|h|h|h|h|h<;>simp[h]);refine⟨.bool q,?_,by simp[aA,aD],by simp[aE]⟩;simp only[dz,k];refine eL ?_;have E:(eqGuard d T x y (s x) (s y)).run P w=.ok () w:=by
   rcases z with⟨p,e⟩|⟨p,e⟩|⟨p,n,c,e⟩|⟨m,e⟩|e|⟨f,M,N,e⟩|⟨p,e⟩|⟨e,hc⟩
   all_goals rw[e]at A⊢
   case inr.inl=>
    cases hy:s y with
    |agg B=>
     exact run_eqGuard_agg w d T x y p B (A p B rfl hy)
    |_=>cases d<;>rfl
   case inr.inr.inr.inr.inr.inr.inr=>
    cases y<;>simp[lZ]at hc;unfold eqGuard;cases d<;>simp<;>(split<;>simp_all)
   all_goals (cases d<;>rfl)
  simp[E,F]
 rcases D with⟨rfl,j⟩|⟨rfl,j⟩
 ·exact key _ j fun w a b g i=>⟨_,rfl,(GA g i).1⟩
 ·exact key _ j fun w a b g i=>⟨_,rfl,(GA g i).2⟩
theorem xZ(T:dq)(a b:dl):∃d,9<=d+1/\ha T a b=g9 (d+1) T a b:=⟨9999,by omega,rfl⟩
theorem HX{T:dq}{c:Bool}{b:AV}{k:tW}(h:dA P T c b=some k):
 (k=.ptr/\b=.p .dH/\∃e,P.underlying T=some (.pointer e))\/(k=.slice/\b=.p .aO/\∃e,P.underlying T=some (.slice e))\/
 (k=.map/\b=.p .fc/\∃e f,P.underlying T=some (.map e f))\/(k=.func/\b=.p .gD/\∃e f g,P.underlying T=some (.func e f g))\/(k=.iface/\b=.p .gd/\c=true/\∃m,P.underlying T=some (.interface m)):=by
 unfold dA at h
 split at h<;>first
  |(split at h
    ·rename_i a;simp at h;subst h;simp[a]
    ·simp at h)
  |simp at h
theorem aHc{T:dq}{c:Bool}{H0:aj}{a b:AV}{r:Bool}{k:tW}(hk:dA P T c b=some k)(h:cQ H0 k a=some r){l s:dl}(al:∀p∈dB H0 a,H[p.1]?=some p.2)(i:aA P w ad β H a l)(C:aA P w ad β H b s):
 (ha T l s).run P w=.ok r w/\((∃x,l=.bool x)\/(∃x,l=.agg x)\/(∃p n c,l=.slice p n c)\/(∃m,l=.map m)\/l=.nilFunc\/(∃f x y,l=.func f x y)\/(∃p,l=.pointer p)\/(l=.nilIface/\c=true))/\(∀u v,l=.agg u->s=.agg v->P.eqGuardType P.depth T=false):=by
 obtain⟨d,_,I⟩:=xZ T l s;rw[I];rcases HX hk with⟨rfl,rfl,e,j⟩|⟨rfl,rfl,e,j⟩|⟨rfl,rfl,e,f,j⟩|⟨rfl,rfl,e,f,g,j⟩|⟨rfl,rfl,G,m,j⟩
 all_goals simp only[aA,aD]at C
 all_goals subst C
 ·cases a<;>simp only[cQ]at h
  case p v=>
   cases v<;>simp only at h<;>simp at h
   all_goals subst h
   all_goals simp only[aA,aD]at i
   ·subst i;simp[g9,dk j]
   ·obtain⟨_,_,_,_,_,_,rfl⟩:=i;simp[g9,dk j]
  case ptr B path=>
   simp only[aA,bO,bR]at i;obtain⟨_,_,_,_,rfl,_⟩:=i
   split at h
   ·simp at h;subst h;simp[g9,dk j]
   ·simp at h
  all_goals simp at h
 ·cases a<;>simp only[cQ]at h
  case p v=>
   cases v
   case seq o=>
    cases o with
    |nil=>simp at h
    |cons e o=>
     simp at h;subst h;simp only[aA,aD]at i;rcases i with⟨J,_⟩|⟨_,_,_,_,_,_,_,_,_,_,_,rfl⟩
     ·cases J
     ·simp[g9,dk j]
   all_goals simp only at h
   all_goals simp at h
   all_goals subst h
   all_goals simp only[aA,aD]at i
   ·subst i;simp[g9,dk j]
   ·obtain⟨_,_,_,_,_,_,_,_,_,_,_,_,rfl⟩:=i;simp[g9,dk j]
  case sl B az ai off len=>
   simp only[aA,bO,bR]at i;simp only[dB]at al
   split at h
   case h_2=>simp at h
   rename_i A M L o t;rw[t]at al;have z:=al _ (h4.2 rfl)
   split at h
   case isFalse=>simp at h
   rename_i hc;obtain⟨rfl,rfl⟩:=hc;obtain⟨_,E,F⟩:=i.2 A o z
   by_cases q:dd A o
   ·rw[E q];have:r=true:=by simp at h;rw[<-h];simp[q.1,q.2]
    subst this;simp[g9,dk j]
   ·rw[F q];have:r=false:=by
     simp at h;rw[<-h];unfold dd at q
     by_cases D:A.gr=true
     ·have K:o≠[]:=fun h=>q ⟨D,h⟩;simp[K]
     ·simp[D]
    subst this;simp[g9,dk j]
  all_goals simp at h
 ·cases a<;>simp only[cQ]at h
  case p v=>
   cases v<;>simp only at h<;>simp at h
   all_goals subst h
   all_goals simp only[aA,aD]at i
   ·subst i;simp[g9,dk j]
   ·obtain⟨_,_,_,_,_,_,rfl⟩:=i;simp[g9,dk j]
  case map B=>
   simp only[aA,bO,bR]at i;simp only[dB]at al
   split at h
   case h_2=>simp at h
   rename_i fz o t;rw[t]at al;have z:=al _ (h4.2 rfl);rw[i.2.1 ⟨_,_,z⟩];simp at h;subst h;simp[g9,dk j]
  all_goals simp at h
 ·cases a<;>simp only[cQ]at h
  case p v=>
   cases v<;>simp only at h<;>simp at h
   all_goals subst h
   all_goals simp only[aA,aD]at i
   ·obtain⟨_,_,_,_,rfl⟩:=i;simp[g9,dk j]
   ·subst i;simp[g9,dk j]
  case func f first iq=>
   simp only[aA]at i;obtain⟨_,_,_,_,rfl⟩:=i;simp at h;subst h;simp[g9,dk j]
  all_goals simp at h
 ·cases a<;>simp only[cQ]at h
  case p v=>
   cases v<;>simp only at h<;>simp at h
   all_goals subst h
   all_goals simp only[aA,aD]at i
   subst i;simp[g9,dk j,G]
  all_goals simp at h
theorem aHl{i:fb}{T s:dq}{x y:dp}{K:PV->Prop}{H0:aj}(j:o.op= .binOp i T x y s)(h:kf P i T (lZ y) H0 (ρ x) (ρ y) K):
 ∃v,K v/\bw P o ρ base {v:=.p v,al:=dB H0 (ρ x)}:=by
 unfold kf at h
 split at h
 ·rename_i k a C b hx g;exact aHp j hx g h.1 h.2 _
 ·rename_i a b hx g;exact aHu j hx g h _
 ·rename_i a b hx g;obtain⟨z,h⟩:=h;have m:=SN z;refine C0 (r:=a==b) j ?_ ?_
  ·split at h
   ·exact .inl ⟨rfl,h⟩
   ·exact .inr ⟨rfl,h⟩
   ·exact h.elim
  ·intro H w ad ah β n q e al f c;rw[hx]at f;rw[g]at c;simp only[aA,aD]at f c;subst f;subst c;obtain⟨d,_,l⟩:=xZ T (.bool a) (.bool b);rw[l];exact⟨by simp[g9,dk m],.inl ⟨_,rfl⟩,fun u v m _=>by cases m⟩
 ·rename_i u fs u' t hx g;obtain⟨B,h⟩:=h;obtain⟨r,e,c⟩:∃r,iK P 9 T (.st u fs) (.st u' t)=some r/\(i=.eql/\K (.bool r)\/i=.neq/\K (.bool !r)):=by
   split at h
   ·rename_i r e;exact⟨r,e,.inl ⟨rfl,h⟩⟩
   ·rename_i r e;exact⟨r,e,.inr ⟨rfl,h⟩⟩
   ·exact h.elim
  refine C0 (r:=r) j c ?_;intro H w ad ah β n q _ al f c;rw[hx]at f;rw[g]at c;simp only[aA]at f c;refine⟨?_,?_,fun u v _ _=>by simpa[rD]using B⟩
  ·obtain⟨d,A,l⟩:=xZ T n q;rw[l];exact BM 9 T _ _ r e _ _ f c (d+1) A
  ·simp only[aD]at f;obtain⟨_,_,_,_,rfl⟩:=f;exact .inr (.inl ⟨_,rfl⟩)
 ·rename_i hx g
  split at h
  case h_2=>exact h.elim
  rename_i k hk;obtain⟨r,e,c⟩:∃r,cQ H0 k (ρ x)=some r/\(i=.eql/\K (.bool r)\/i=.neq/\K (.bool !r)):=by
   split at h
   ·rename_i r e;exact⟨r,e,.inl ⟨rfl,h⟩⟩
   ·rename_i r e;exact⟨r,e,.inr ⟨rfl,h⟩⟩
   ·exact h.elim
  exact C0 (r:=r) j c fun H w ad ah β n q _ al f c=>aHc hk e al f c
end
section
variable{P:eb}{w:ea}{ad ah:Nat->Prop}{β:Bd}{H:aj}
variable{o:Oper}{ρ:dp->AV}{base:Nat}
theorem nv{c:dp->dl}:∀(l:List dp),(∀x∈l,aA P w ad β H (ρ x) (c x)/\aE (aJ H) (ρ x))->bF P w ad β H (l.map ρ) (l.map c)/\aX (aJ H) (l.map ρ)
 |[],_=>by simp[bF,aX]
 |x::l,h=>by
  have a:=h x (by simp);have b:=nv l (fun y d=>h y (by simp[d]));simp only[hV,bF,aX];exact⟨⟨_,_,rfl,a.1,b.1⟩,a.2,b.2⟩
theorem xT{H0:aj}:∀(l:List AV){j:List PV}{al aM:List (Nat×Obj)}{H:aj}{ad:Nat->Prop}{vs:List dl},fD H0 l=some (j,al,aM)->bU P w ad β H ah->bF P w ad β H l vs->aX (aJ H) l->
 (∀p∈al,∃f fz t,p.2=.box fz t/\H[p.1]?=some (.box f t))->∃aF,bY P ah ad w β H aF w β (bc H aM)/\bJ P w aF j vs/\∀p∈aM,p.1<H0.length/\p.2≠.hole
 |[],j,al,aM,H,ad,vs,h,i,e,_,_=>by
  simp[fD]at h;obtain⟨rfl,rfl,rfl⟩:=h;simp only[bF]at e;exact⟨ad,bY.refl i,by simpa[bJ]using e,by simp⟩
 |a::l,j,al,aM,H,ad,vs,h,i,e,d,m=>by
  simp only[bF]at e;obtain⟨y,x,rfl,n,u⟩:=e;simp only[aX]at d;cases a with
  |p v=>
   simp only[fD]at h
   split at h
   case h_2=>simp at h
   rename_i G B E k;simp at h;obtain⟨rfl,rfl,rfl⟩:=h;obtain⟨aF,q1,o,q⟩:=xT l k i u d.2 m;simp only[aA]at n;exact⟨aF,q1,by simp only[bJ];exact⟨y,x,rfl,aD.mono q1.bQ (fun _ _=>rfl) _ _ n,o⟩,q⟩
  |ptr b path=>
   cases path with
   |cons _ _=>simp[fD]at h
   |nil=>
    simp only[fD]at h
    split at h
    case h_2=>simp at h
    rename_i fz t G B E C k;simp at h;obtain⟨rfl,rfl,rfl⟩:=h;obtain⟨f,J,K,e1,e2⟩:=m (b,.box fz (.p t)) (by simp);cases e1;have D:kA H (.ptr b [])=some (.cm t,H.set b (.box true (.p t))):=by
     simp only at e2;simp[kA,e2,kD]
    obtain⟨I,g,F⟩:=II D i n d.1;have A:b<H.length:=(hE.1 e2).1;obtain⟨z,q1,o,q⟩:=xT l k g.rel (bF.mono g.bQ (fun _ _=>rfl) g.step _ _ d.2 u) (aX.mono g.eP _ d.2) (by
     intro p c;obtain⟨f2,r,t2,g1,g2⟩:=m p (by simp[c])
     by_cases s:b=p.1
     ·rw[<-s]at g2⊢;simp only at e2;rw[e2]at g2;cases g2;exact⟨true,r,_,g1,by rw[hF A]⟩
     ·exact⟨f2,r,t2,g1,by rw[h0 s];exact g2⟩)
    refine⟨z,by simpa only[bc]using g.trans q1,?_,?_⟩
    ·simp only[bJ];exact⟨y,x,rfl,aD.mono q1.bQ (fun _ _=>rfl) _ _ F,o⟩
    ·intro p c;rcases hU.1 c with rfl|c
     ·exact⟨(hE.1 C).1,by simp⟩
     ·exact q p c
  |_=>simp[fD]at h
theorem TU{f:em}{fi ca:Array dp}(E:o.op= .makeFunc (.func f) fi ca):
 (∀a b,eE (fi.toList.map ρ)=some a->eE (ca.toList.map ρ)=some b->bw P o ρ base {v:=.p (.func f a b)})/\
 bw P o ρ base {v:=.func f (fi.toList.map ρ) (ca.toList.map ρ)}/\
 (∀(H0:aj) a b al aM,fD H0 (fi.toList.map ρ)=some (a,[],[])->fD H0 (ca.toList.map ρ)=some (b,al,aM)->bw P o ρ base {v:=.p (.func f a b),al,aM}/\(∀p∈al,H0[p.1]?=some p.2)/\(∀p∈aM,p.1<H0.length/\p.2≠.hole)):=by
 have g:∀x,x∈fi.toList\/x∈ca.toList->x∈o.op.operands:=by
  intro x hx;rw[E];simp only[g8,Array.mem_append];simpa using hx
 have u:∀(c:dp->dl)(w:ea),(dz c o).run P w=.ok (.value (.func (.func f) (fi.toList.map c).toArray (ca.toList.map c).toArray)) w:=by
  intro c w;simp only[dz,E];refine eL ?_;have j:(fi.toList.map c).toArray=fi.map c:=by apply b5;simp
  have k:(ca.toList.map c).toArray=ca.map c:=by apply b5;simp
  rw[j,k];simp[Instr.makeFunc]
 refine⟨?_,?_,?_⟩
 ·intro a b s m;refine bw.same fun H w ad ah β c z e _=>⟨_,u c w,?_,by simp[aE]⟩
  obtain⟨j,_⟩:=nv fi.toList (fun x hx=>e x (g x (.inl hx)));obtain⟨k,_⟩:=nv ca.toList (fun x hx=>e x (g x (.inr hx)));rw[lK s]at j;rw[lK m]at k;simp only[aA,aD];exact⟨_,_,jq.1 j,jq.1 k,rfl⟩
 ·refine bw.same fun H w ad ah β c z e _=>⟨_,u c w,?_,?_⟩
  ·simp only[aA];exact⟨_,_,(nv fi.toList (fun x hx=>e x (g x (.inl hx)))).1,(nv ca.toList (fun x hx=>e x (g x (.inr hx)))).1,rfl⟩
  ·simp only[aE];exact⟨(nv fi.toList (fun x hx=>e x (g x (.inl hx)))).2,(nv ca.toList (fun x hx=>e x (g x (.inr hx)))).2⟩
 ·intro H0 a b al aM s m;have D:∀p∈al,H0[p.1]?=some p.2/\∃fz t,p.2=.box fz t:=by
   have:∀(l:List AV)(b:List PV)(al aM:List (Nat×Obj)),fD H0 l=some (b,al,aM)->∀p∈al,H0[p.1]?=some p.2/\∃fz t,p.2=.box fz t:=by
    intro l
    induction l with
    |nil=>intro b al aM h;simp[fD]at h;obtain⟨rfl,rfl,rfl⟩:=h;simp
    |cons x l q=>
     intro b al aM h;cases x with
     |p v=>
      simp only[fD]at h
      split at h
      case h_2=>simp at h
      rename_i B n A i;simp at h;obtain⟨rfl,rfl,rfl⟩:=h;exact q _ _ _ i
     |ptr J path=>
      cases path with
      |cons _ _=>simp[fD]at h
      |nil=>
       simp only[fD]at h
       split at h
       case h_2=>simp at h
       rename_i fz t B n A y i;simp at h;obtain⟨rfl,rfl,rfl⟩:=h;intro p d;rcases hU.1 d with rfl|d
       ·exact⟨y,_,_,rfl⟩
       ·exact q _ _ _ i p d
     |_=>simp[fD]at h
   exact this _ _ _ _ m
  have K:∀p∈aM,p.1<H0.length/\p.2≠.hole:=by
   have:∀(l:List AV)(b:List PV)(al aM:List (Nat×Obj)),fD H0 l=some (b,al,aM)->∀p∈aM,p.1<H0.length/\p.2≠.hole:=by
    intro l
    induction l with
    |nil=>intro b al aM h;simp[fD]at h;obtain⟨rfl,rfl,rfl⟩:=h;simp
    |cons x l q=>
     intro b al aM h;cases x with
     |p v=>
      simp only[fD]at h
      split at h
      case h_2=>simp at h
      rename_i B n A i;simp at h;obtain⟨rfl,rfl,rfl⟩:=h;exact q _ _ _ i
     |ptr J path=>
      cases path with
      |cons _ _=>simp[fD]at h
      |nil=>
       simp only[fD]at h
       split at h
       case h_2=>simp at h
       rename_i fz t B n A y i;simp at h;obtain⟨rfl,rfl,rfl⟩:=h;intro p d;rcases hU.1 d with rfl|d
       ·exact⟨(hE.1 y).1,by simp⟩
       ·exact q _ _ _ i p d
     |_=>simp[fD]at h
   exact this _ _ _ _ m
  refine⟨?_,fun p d=>(D p d).1,K⟩;intro H w ad ah β c z e n _;obtain⟨j,N⟩:=nv fi.toList (fun x hx=>e x (g x (.inl hx)));obtain⟨k,G⟩:=nv ca.toList (fun x hx=>e x (g x (.inr hx)));obtain⟨O,r,L,_⟩:=xT _ s z j N (by simp);simp only[bc]at r;obtain⟨I,q1,M,_⟩:=xT _ m r.rel (bF.mono r.bQ (fun _ _=>rfl) r.step _ _ G k) G (by
   intro p d;obtain⟨_,fz,t,F⟩:=D p d;have C:=n p d;rw[F]at C;exact⟨fz,fz,t,F,C⟩)
  simp only[newAt,hS];refine⟨_,_,w,β,I,u c w,.inl rfl,r.trans q1,?_,by simp[aE]⟩;simp only[aA,aD];exact⟨_,_,bJ.mono q1.bQ (fun _ _=>rfl) _ _ L,M,rfl⟩
theorem AZ{x:dp}(d:o.op=.nilCheck x)(h:(∃b p,ρ x=.ptr b p)\/(∃b v e i p,ρ x=.bZ b v e i p)\/∃t,ρ x=.p (.cm t)):bw P o ρ base {v:=ρ x}:=by
 refine bw.same fun H w ad ah β f l k al=>?_;have c:=k x (by simp[d,g8]);refine⟨f x,?_,c⟩;have j:∃a,f x=.pointer (some a):=by
  rcases h with⟨b,p,hx⟩|⟨b,v,e,i,p,hx⟩|⟨t,hx⟩
  ·have c:=c.1;rw[hx]at c;simp only[aA,bO,bR]at c;obtain⟨_,_,_,_,h,_⟩:=c;exact⟨_,h⟩
  ·have c:=c.1;rw[hx]at c;simp only[aA,bO,bR]at c;obtain⟨_,_,_,_,h,_⟩:=c;exact⟨_,h⟩
  ·have c:=c.1;rw[hx]at c;simp only[aA,aD]at c;obtain⟨_,_,_,_,_,_,h⟩:=c;exact⟨_,h⟩
 obtain⟨a,g⟩:=j;simp[dz,d,g]
end
end Go.ak
