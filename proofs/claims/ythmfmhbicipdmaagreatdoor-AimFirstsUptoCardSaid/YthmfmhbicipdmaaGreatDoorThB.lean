import Derived.Test.YthmfmhbicipdmaaGreatDoorThA
import Derived.Lib.Strings
import Derived.Laws.Append
import Derived.Laws.StructEq
import Derived.Laws.Concat
import Derived.MapKept
/- Parts of a proof. -/
set_option linter.unusedSimpArgs false
set_option linter.unusedVariables false
set_option linter.unusedSectionVars false
open Array renaming ext'->b5, getElem?_toList->cb, replicate->cc, range->cd, getD_eq_getD_getElem?->ce, mapM_eq_mapM_toList->ck, getElem_toList->cv, length_toList->cx, getElem?_push->cy, foldl_toList->c6, toList_map->c9
open Bool renaming false_eq_true->da, and_eq_true->db
open Go renaming run_underlying->dg, Value->dl, Operand->dp, TypeId->dq, execOp->dx, World->dy, Program->dz, TypeInfo->ea, setRow_other->eb, ResultVar->ec, setRow_heap->ed, run_newObj->ee, FuncId->ei, run_firstCells_some->ej, run_storeCells_at->em, IntKind->en, step_lone_go->eo, setRow_size->eq, Steps->er, Frame->ew, Field->eP, BinOp->e6
open Go.Builtin renaming firstCells->e7, append_->e8, len_->e9, lenOf->fa, zeroCells->fb, nextslicecap->fl, copy_->fm
open Go.ByteArray renaming toList_eq->fv
open Go.Instr renaming sliceBounds->fw, slice->gb, sureAddr->gc, sliceBound->ge, indexAt->gg, sliceAt->gi, fill->gj, build->gm
open Go.Op renaming operands->gt, equalIn->gx, equal->gy, bytesLess->g0, eqFields->g7, unary->g8, stringOp->g9, intArith->ha, intBits->hb
open Go.Program renaming cellsOf->hd, underlying->he, underlyingId->hg, fieldsOf->hh
open Go.Result renaming andThen_ok->hj
open Go.Sem renaming run_bind->hl, run_pure->hm, run_map->hn, run->ho
open Go.Steps renaming trans->hp, one->hr
open Go.Value renaming oneCell'->ht, int->hv, cells->hw
open List renaming getElem?_eq_some_iff->hz, getElem?_set_self->hA, replicate->hB, length_append->hC, sum_replicate_nat->hD, take_replicate->hE, length_eq_zero_iff->hF, append_assoc->hG, mem_of_mem_take->hH, mem_cons_of_mem->hJ, getElem?_eq_getElem->hK, getElem?_replicate->hL, mem_of_mem_drop->hM, append_nil->hN, flatten_cons->hO, mem_cons->hP, map_cons->hQ, take_of_length_le->hR, mem_of_getElem?->hS, length->hT, getElem?_set_ne->hU, drop_take->hV, length_pos_iff->hW, flatten_append->hX, mem_singleton->hZ, size_toArray->h0, mem_append->h1, mem_or_eq_of_mem_set->h2, getElem_append_right->h3, getElem_append_left->h4, eq_of_mem_replicate->h5, getElem?_cons_succ->h6, replicate_succ->h7, getElem?_map->h8, getElem_mem->h9, flatten_nil->ih, nil_append->ii, mapM_cons->ik, map_take->ip, mem_map->ix
open Nat renaming le_refl->iz, lt_irrefl->i0, min_eq_left->i1, add_mul->i3, add_zero->i4, add_sub_cancel_left->i5, mul_le_mul->i6, add_assoc->i7, zero_mul->i8, zero_add->i9, sub_zero->jp, ne_of_lt->js
open Option renaming isSome_iff_exists->jP, map_none->j1, bind_some->j2, map_some->j3
open Option.some renaming injEq->j4, inj->j5
open Prod renaming snd->j6, fst->j7
namespace Go.ak
set_option linter.unusedSectionVars false
variable[Gl]
def jl(i:Nat):List AV->Env
 |[]=>[]
 |v::r=>(i,v)::jl (i+1) r
def ql(P:dz)(s:St):ec->Option AV
 | .tmp t=>some (aN s.env t)
 | .cell a T=>match aN s.env a with
  | .ptr b path=>match s.heap[b]? with
   |some (.box _ t)=>match fo t path with
    |some v=>if kindOf P T=aa v then some v else none
    |none=>none
   |_=>none
  |_=>none
def fY(P:dz)(s:St):List ec->Option (List AV)
 |[]=>some []
 |r::rs=>match ql P s r,fY P s rs with
  |some v,some vs=>some (v::vs)
  |_,_=>none
def oneOf:List AV->AV
 |[v]=>v
 |vs=>match eA vs with
  |some l=>.p (.aC l)
  |none=>.aC vs
def kA(f:AV->Option PV):List AV->Option (List PV)
 |[]=>some []
 |v::vs=>match f v,kA f vs with
  |some p,some a=>some (p::a)
  |_,_=>none
def eM(H:aj):Nat->AV->Option PV
 |0,.p v=>some v
 |0,_=>none
 |n+1,x=>match x with
  | .p v=>some v
  | .sl b aA ai off len=>match H[b]? with
   |some (.arr k e c es)=>
    if aA=e/\ai=c/\off+len<=es.length then
     if k.gr=true/\es=[]then some .aH else
     match kA (eM H n) ((es.drop off).take len)with
     |some d=>some (.cT (k== .exact&&off+len==es.length) d)
     |none=>none
    else none
   |_=>none
  | .ptr b path=>match H[b]? with
   |some (.box _ t)=>match fo t path with
    |some s=>match eM H n s with
     |some p=>some (.cm p)
     |none=>none
    |none=>none
   |_=>none
  | .map b=>match H[b]? with
   |some (.map _ es)=>some (.eB es)
   |_=>none
  | .func f fi ca=>match kA (eM H n) fi,kA (eM H n) ca with
   |some a,some b=>some (.func f a b)
   |_,_=>none
  | .st u fs=>match kA (eM H n) fs with
   |some l=>some (.st u l)
   |none=>none
  | .aC vs=>match kA (eM H n) vs with
   |some l=>some (.aC l)
   |none=>none
  | .b7 _ _ _ _ _=>none
section
variable{P:dz}{w:dy}{ad ah:Nat->Prop}{β:Bd}{H:aj}
def Ex(ad:Nat->Prop)(β:Bd)(H:aj)(k:Nat):Prop:=ad k\/∃(b:Nat)(o:Obj),H[b]?=some o/\o.live/\β.aq b=k
theorem Lt:∀{n:Nat}{v:AV}{p:PV},eM H n v=some p->(aa v=aI p)
 |0,v,p,h=>by
  cases v<;>simp[eM]at h;subst h;rfl
 |n+1,v,p,h=>by
  cases v<;>simp only[eM]at h
  case p v=>simp at h;subst h;rfl
  case b7=>simp at h
  case sl b aA ai off len=>
   split at h
   ·split at h
    ·split at h
     ·simp at h;subst h;rfl
     ·split at h
      ·simp at h;subst h;rfl
      ·simp at h
    ·simp at h
   ·simp at h
  case ptr b path=>
   split at h
   ·split at h
    ·split at h
     ·simp at h;subst h;rfl
     ·simp at h
    ·simp at h
   ·simp at h
  all_goals
   split at h
   ·simp at h;subst h;rfl
   ·simp at h
theorem J7{v:AV}{p:PV}{cs:List dl}(hs:aa v=aI p)(hc:bu P w ad β H v cs){I:Nat->Prop}(h:∀x,aB P w ad β H v x->aD P w I p x):aU P w I p cs:=by
 cases a:aa v with
 |bad=>exact((oA hc).2 a).elim
 |leaf=>
  obtain⟨c,rfl,b⟩:=(Dq a cs).1 hc;exact(ug (hs▸a) _).2 ⟨c,rfl,h _ b⟩
 |agg u=>exact(xc (hs▸a) cs).2 (h _ ((Og a cs).1 hc))
section lists
variable{f:AV->Option PV}{I:Nat->Prop}(hf:∀v p,f v=some p->aa v=aI p/\(aE (aJ H) v->∀x,aB P w ad β H v x->aD P w I p x))
include hf
theorem zo:∀{vs:List AV}{a:List PV},kA f vs=some a->aS (aJ H) vs->∀b,bI P w ad β H vs b->bK P w I a b
 |[],a,h,_,b,hx=>by
  simp[kA]at h;subst h;simpa[bI,bK]using hx
 |v::vs,a,h,c,b,hx=>by
  simp only[kA]at h
  split at h
  case h_2=>simp at h
  rename_i q g hq d;simp at h;subst h;simp only[aS]at c;simp only[bI]at hx;obtain⟨y,e,rfl,k1,k2⟩:=hx;simp only[bK];exact⟨y,e,rfl,(hf _ _ hq).2 c.1 _ k1,zo d c.2 _ k2⟩
theorem CB:∀{vs:List AV}{b:List PV},kA f vs=some b->aS (aJ H) vs->∀l a,bM P w ad β H l vs a->bk P w I l b a
 |[],b,h,_,l,a,hx=>by
  simp[kA]at h;subst h;cases l<;>simp_all [bM,bk]
 |v::vs,b,h,d,l,a,hx=>by
  simp only[kA]at h
  split at h
  case h_2=>simp at h
  rename_i q g hq e;simp at h;subst h;simp only[aS]at d;cases l with
  |nil=>simp[bM]at hx
  |cons m l=>
   simp only[bM]at hx;obtain⟨c,cs,rfl,k1,k2,k3⟩:=hx;simp only[bk];exact⟨c,cs,rfl,J7 (hf _ _ hq).1 k1 ((hf _ _ hq).2 d.1),k2,CB e d.2 _ _ k3⟩
end lists
theorem yY(e:bV P w ad β H ah):∀(n:Nat)(v:AV)(p:PV),eM H n v=some p->aE (aJ H) v->∀x,aB P w ad β H v x->aD P w (Ex ad β H) p x
 |0,v,p,h,_,x,hx=>by
  cases v<;>simp[eM]at h;subst h;simp only[aB]at hx;exact aD.mono (fun _=>.inl) (fun _ _=>rfl) _ _ hx
 |n+1,v,p,h,g,x,hx=>by
  have hf:∀v p,eM H n v=some p->aa v=aI p/\(aE (aJ H) v->∀x,aB P w ad β H v x->aD P w (Ex ad β H) p x):=fun v p h=>⟨Lt h,yY e n v p h⟩
  cases v<;>simp only[eM]at h
  case p v=>
   simp at h;subst h;simp only[aB]at hx;exact aD.mono (fun _=>.inl) (fun _ _=>rfl) _ _ hx
  case b7=>simp at h
  case sl b aA ai off len=>
   split at h
   case h_2=>simp at h
   rename_i k ae Y i d
   split at h
   case isFalse=>simp at h
   rename_i L;obtain⟨rfl,rfl,z⟩:=L;simp only[aB]at hx;obtain⟨_,hx⟩:=hx;simp only[bS]at hx;obtain⟨v1,v2,v3⟩:=hx k i d
   split at h
   ·rename_i y;simp at h;subst h;simp[aD,v2 y]
   ·rename_i y
    split at h
    case h_2=>simp at h
    rename_i W O;simp at h;subst h;rw[v3 y];rcases e.cM b _ d with hold|⟨cs,T,C,rest,j,r,B,G,Z,I,ab,ac⟩
    ·exact(y hold).elim
    obtain⟨a,m,c,e1,e2,e3,e4,e5⟩:=kq r off len v1;have R:aS (aJ H) ((i.drop off).take len):=by
     have:=e.refs b _ d;rw[c7];intro v S;exact c7.1 this v (hM (hH S))
    have M:((i.drop off).take len).length=len:=by simp;omega
    have k1:=CB hf O R _ _ e2;have A:W.length=len:=by have:=(vR k1).2.1;simp at this;omega
    simp only[aD];refine⟨β.aq b,off*ai,β.cap b-off,ai,m,by rw[A,<-M];exact k1,fun _=>.inr ⟨b,_,d,y,rfl⟩,?_,?_,?_,none,.inl rfl,?_⟩
    ·rw[<-e3];exact mw j (post:=c.flatten++rest) (by rw[B,e1];simp)
    ·intro hf;simp at hf;rw[A,I hf.1];omega
    ·rw[A];omega
    ·rw[A]
  case ptr b path=>
   split at h
   case h_2=>simp at h
   rename_i fz t d
   split at h
   case h_2=>simp at h
   rename_i s hs
   split at h
   case h_2=>simp at h
   rename_i q hq;simp at h;subst h;simp only[aB]at hx;obtain⟨_,hx⟩:=hx;simp only[bS]at hx;obtain⟨X,V,o,rfl,N,hx⟩:=hx;obtain⟨rfl,rfl⟩:=hx (.inl ⟨fz,_,d⟩);obtain⟨cs,T,j,r,B,G⟩:=e.cM b _ d;obtain⟨pre,xs,post,e1,e2,e3,_⟩:=pY r hs N;have Q:aE (aJ H) s:=wF hs (e.refs b _ d);simp only[aD];refine⟨β.aq b,V,xs,J7 (Lt hq) e3 (yY e n _ _ hq Q),.inr ⟨b,_,d,trivial,rfl⟩,?_,rfl⟩;rw[<-e2];exact mw j e1
  case map b=>
   split at h
   case h_2=>simp at h
   rename_i fz i d;simp at h;subst h;simp only[aB]at hx;obtain⟨_,hx⟩:=hx;simp only[bS]at hx;have hx:=hx.1 ⟨fz,i,d⟩;obtain⟨E,clock,j,r,B⟩:=e.cM b _ d;simp only[aD];exact⟨β.aq b,E,clock,.inr ⟨b,_,d,trivial,rfl⟩,j,cK.mono (fun _=>.inl) (fun _ _=>rfl) _ _ r,hx⟩
  case func f a b=>
   split at h
   case h_2=>simp at h
   rename_i a' b' J K;simp at h;subst h;simp only[aE]at g;simp only[aB]at hx;obtain⟨F,D,k1,k2,k3⟩:=hx;simp only[aD];exact⟨F,D,zo hf J g.1 _ k1,zo hf K g.2 _ k2,k3⟩
  case st u fs=>
   split at h
   case h_2=>simp at h
   rename_i l z;simp at h;subst h;simp only[aE]at g;simp only[aB]at hx;obtain⟨U,C,k1,k2,k3⟩:=hx;simp only[aD];exact⟨U,C,k1,CB hf z g _ _ k2,k3⟩
  case aC vs=>
   split at h
   case h_2=>simp at h
   rename_i l z;simp at h;subst h;simp only[aE]at g;simp only[aB]at hx;obtain⟨xs,k1,k2⟩:=hx;simp only[aD];exact⟨xs,zo hf z g _ k1,k2⟩
end
section
variable{P:dz}{ag:ei->Bool}{fit:Nat->Array Oper->Bool}
theorem Cz:∀(args:List AV)(i x:Nat),aN (jl i args) x=if i<=x then(args[x-i]?).getD (.p .undef)else .p .undef
 |[],i,x=>by simp[jl,aN]
 |v::r,i,x=>by
  simp only[jl,aN,Cz r]
  by_cases h:x=i
  ·subst h;simp
  ·by_cases b:i<=x
   ·have a:i+1<=x:=by omega
    simp only[h,b,a,if_true,if_false];rw[show x-i=(x-(i+1))+1 by omega,h6]
   ·have a:¬i+1<=x:=by omega
    simp[h,b,a]
theorem uh{w:dy}{ad:Nat->Prop}{β:Bd}{H:aj}:∀{vs:List AV}{xs:List dl},bI P w ad β H vs xs->xs.length=vs.length/\∀i:Nat,aB P w ad β H ((vs[i]?).getD (.p .undef)) ((xs[i]?).getD undef)
 |[],xs,h=>by simp only[bI]at h;subst h;simp[aB,aD]
 |v::vs,xs,h=>by
  simp only[bI]at h;obtain⟨y,c,rfl,a,b⟩:=h;have:=uh b;refine⟨by simp[this.1],fun i=>?_⟩;cases i with
  |zero=>simpa using a
  |succ i=>simpa using this.2 i
theorem WT{ah ad:Nat->Prop}{β:Bd}{w:dy}{H:aj}{args:List AV}{a:List dl}{n:Nat}(f:bV P w ad β H ah)(d:bI P w ad β H args a)(g:aS (aJ H) args)(i:args.length<=n):
 cN P n ah ad β ⟨jl 0 args,H⟩ (a.toArray++cc (n-a.length) undef) w:=by
 obtain⟨b,c⟩:=uh d;refine⟨f,fun x=>?_,fun x=>?_,by simp[b];omega⟩
 ·have e:(a.toArray++cc (n-a.length) undef).getD x undef=(a[x]?).getD undef:=by
   rw[ce,<-cb];simp only[Array.toList_append,Array.toList_replicate]
   by_cases hx:x<a.length
   ·rw[List.getElem?_append_left (by simpa using hx)]
   ·rw[List.getElem?_append_right (by simpa using hx)];simp only[hL];rw[List.getElem?_eq_none (by simpa using hx)]
    split<;>rfl
  rw[e,Cz];simpa using c x
 ·rw[Cz];simp only[Nat.zero_le,if_true,jp];cases h:args[x]? with
  |none=>simp[aE]
  |some v=>exact c7.1 g v (hS h)
theorem Jm{w:dy}{ad:Nat->Prop}{β:Bd}{H:aj}{T:dq}{v:AV}{aq off:Nat}{a:List dl}(hk:kindOf P T=aa v)(f:bu P w ad β H v a)(hc:ir w aq off a):
 ∃g,(loadVar T ⟨aq,off,none⟩).run P w=.ok g w/\aB P w ad β H v g:=by
 obtain⟨o,n⟩:=oA f;have m:∀j,(⟨aq,off,none⟩:Addr).add j=⟨aq,off+j,none⟩:=by intro j;unfold Addr.add;split<;>simp_all
 unfold kindOf at hk;cases hs:aa v with
 |bad=>exact(n hs).elim
 |leaf=>
  rw[hs]at hk;obtain⟨c,rfl,e⟩:=(Dq hs a).1 f;refine⟨c,?_,e⟩;have h:=hc 0 (by simp);simp only[i4,List.getElem_cons_zero]at h;have b:(isAgg T).run P w=.ok false w:=by
   cases hu:P.underlying T with
   |none=>simp[hu]at hk
   |some d=>
    cases d<;>simp only[hu]at hk<;>first
     |(simp[isAgg,dg hu];done)
     |(split at hk<;>simp at hk)
  simp[loadVar,b,h]
 |agg u=>
  rw[hs]at hk;have e:=(Og hs a).1 f;refine⟨.agg a.toArray,?_,e⟩;have b:(isAgg T).run P w=.ok true w/\P.cellsOf T=a.length:=by
   rw[o,hs];cases hu:P.underlying T with
   |none=>simp[hu]at hk
   |some d=>
    cases d<;>simp only[hu]at hk<;>first
     |(split at hk
       ·rename_i hc;simp at hk;subst hk;simp at hc;refine⟨by simp[isAgg,dg hu],hc.2⟩
       ·simp at hk)
     |(split at hk<;>simp at hk)
  obtain⟨i,hi⟩:∃i,P.info? T=some i:=by
   cases hi:P.info? T with
   |none=>
    have l:=b.1;simp[isAgg,underlying,he,hi]at l
   |some i=>exact⟨i,rfl⟩
  have q:(sizeOf T).run P w=.ok a.length w:=by
   rw[<-b.2];simp[sizeOf,typeInfo,hi,hd]
  have p:=run_loadCells_list (P:=P) w ⟨aq,off,none⟩ a (fun j x hx=>by
   rw[m];have k:j<a.length:=(hz.1 hx).1;rw[hc j k];rw[hK k]at hx;exact hx)
  simp[loadVar,b.1,q,p]
theorem WC{n:Nat}{ah ad:Nat->Prop}{β:Bd}{s:St}{t:Array dl}{w:dy}(h:cN P n ah ad β s t w){g:ec}{v:AV}(c:ql P s g=some v):
 ∃e,(match g with
  | .tmp x=>(pure (t.getD x undef):Sem dl)
  | .cell a T=>do loadVar T (<-asAddr (t.getD a undef))).run P w=.ok e w/\aB P w ad β s.heap v e/\aE (aJ s.heap) v:=by
 cases g with
 |tmp x=>
  simp[ql]at c;subst c;exact⟨_,rfl,h.env x,h.gZ x⟩
 |cell a T=>
  simp only[ql]at c;have d:=h.env a
  split at c
  case h_2=>simp at c
  rename_i b B k;rw[k]at d
  split at c
  case h_2=>simp at c
  rename_i fz r f
  split at c
  case h_2=>simp at c
  rename_i v' hs
  split at c
  case isFalse=>simp at c
  rename_i hc;simp at c;subst c;simp only[aB]at d;obtain⟨_,d⟩:=d;simp only[bS]at d;obtain⟨y,q,o,p,m,d⟩:=d;obtain⟨rfl,rfl⟩:=d (.inl ⟨fz,r,f⟩);obtain⟨cs,u,i,j,z,A⟩:=h.heap.cM b _ f;obtain⟨pre,xs,post,e1,e2,e3,_⟩:=pY j hs m;have l:ir w (β.aq b) q xs:=by rw[<-e2];exact mw i e1
  obtain⟨e,k1,k2⟩:=Jm hc e3 l;refine⟨e,?_,k2,wF hs (h.heap.refs b _ f)⟩;simp only[p,asAddr];simp[k1]
theorem Jp{n:Nat}{ah ad:Nat->Prop}{β:Bd}{s:St}{t:Array dl}{w:dy}(h:cN P n ah ad β s t w):∀{d:List ec}{vs:List AV},fY P s d=some vs->
 ∃c:List dl,(d.mapM (fun i:ec=>match i with
  | .tmp x=>(pure (t.getD x undef):Sem dl)
  | .cell a T=>do loadVar T (<-asAddr (t.getD a undef)))).run P w=.ok c w/\bI P w ad β s.heap vs c/\aS (aJ s.heap) vs
 |[],vs,b=>by
  simp[fY]at b;subst b;exact⟨[],by simp,by simp[bI],by simp[aS]⟩
 |r::d,vs,b=>by
  simp only[fY]at b
  split at b
  case h_2=>simp at b
  rename_i v j f g;simp at b;subst b;obtain⟨e,k1,k2,k3⟩:=WC h f;obtain⟨c,g1,g2,g3⟩:=Jp h g;refine⟨e::c,?_,by simp only[bI];exact⟨e,c,rfl,k2,g2⟩,by simp only[aS];exact⟨k3,g3⟩⟩;simp only[ik,hl,k1,hj,g1];rfl
theorem KC{w:dy}{ad:Nat->Prop}{β:Bd}{H:aj}{vs:List AV}{a:List dl}(h:bI P w ad β H vs a)(d:aS (aJ H) vs):
 aB P w ad β H (oneOf vs) (if h:a.toArray.size=1 then a.toArray[0]else .tuple a.toArray)/\aE (aJ H) (oneOf vs):=by
 have b:=(uh h).1
 match vs,a,h with
 |[v],[c],h=>
  simp only[bI]at h;obtain⟨y,j,g,e,i⟩:=h;cases g;simp only[aS]at d;exact⟨by simpa[oneOf]using e,by simpa[oneOf]using d.1⟩
 |[],[],h=>exact⟨by simp[oneOf,eA,aB,aD,bK],by simp[oneOf,eA,aE]⟩
 |v1::v2::vs,c1::c2::a,h=>
  have hs:¬(c1::c2::a).toArray.size=1:=by simp
  rw[dif_neg hs];simp only[oneOf];cases f:eA (v1::v2::vs)with
  |none=>exact⟨by simp only[aB];exact⟨_,h,rfl⟩,by simpa only[aE]using d⟩
  |some l=>
   have:=mC f;rw[this]at h;exact⟨by simp only[aB,aD];exact⟨_,jV.1 h,rfl⟩,by simp[aE]⟩
 |[],_::_,_=>simp at b
 |[_],[],_=>simp at b
 |[_],_::_::_,_=>simp at b
 |_::_::_,[],_=>simp at b
 |_::_::_,[_],_=>simp at b
theorem takes{fr:ew}{cs:List ew}(c:fr.mode= .returning):∀(a:List Nat)(w:dy),a.Nodup->(∀r∈a,w.heap[r]?=some (.deferred (some [])))->
 ∃w',er P (lone {fr with defers:=a.map mark} cs w) (lone {fr with defers:=[]} cs w')/\w'.heap.size=w.heap.size/\(∀k,k∉a->w'.heap[k]?=w.heap[k]?)/\(w'.os=w.os/\w'.output=w.output)
 |[],w,_,_=>⟨w,Steps.refl _ _,rfl,fun _ _=>rfl,rfl,rfl⟩
 |r::a,w,b,h=>by
  rw[List.nodup_cons]at b;have f:=h r (by simp);have hk:=run_takeDeferred (P:=P) f;have m:=(Array.getElem?_eq_some_iff.1 f).1;obtain⟨w',g,i,j,l⟩:=takes c a (w.putObj r (.deferred none)) b.2 (fun x hx=>(World.putObj_heap_other (fun(e:x=r)=>b.1 (e▸hx))).trans (h x (by simp[hx])));refine⟨w',(hr (step_collected (fr:={fr with defers:=(r::a).map mark}) (d:=mark r) (ds:=a.map mark) (by simp[c]) rfl rfl hk)).trans g,by simpa using i,fun k hk=>?_,l⟩;simp only[hP,not_or]at hk;exact(j k hk.2).trans (World.putObj_heap_other hk.1)
theorem JI{N:Nat}{f:ei}{fn:Func}{c:Code}(z:mr P ag)(y:tZ P ag fit)(hf:P.funcs[f]?=some fn)(F:fn.body=some c)(M:codeOk fit fn.ntmps c=true)
 {args:List AV}{H:aj}{R:List AV->St->Prop}(K:args.length<=fn.ntmps)
 (T:cg P ag (fn.ntmps,N) c (fun e s=>(match e with
  | .exit _=>False
  |_=>True)/\∃vs,fY P s fn.results.toList=some vs/\R vs s) ⟨jl 0 args,H⟩)
 {w:dy}{ad ah:Nat->Prop}{β:Bd}{d:List dl}(i:bV P w ad β H ah)(q:bI P w ad β H args d)(O:aS (aJ H) args):
 Calls P f d.toArray w fun e w'=>∃vs s a aF aK t,e=.returned (if h:a.toArray.size=1 then a.toArray[0]else .tuple a.toArray)/\R vs s/\cN P fn.ntmps ah aF aK s t w'/\dS N ah ad w β H ah aF w' aK s.heap/\
  bI P w' aF aK s.heap vs a/\aS (aJ s.heap) vs:=by
 intro cs;have X:=(uh q).1;obtain⟨g,j⟩:∃g:ew,g={fn:=f,tmps:=#[],todo:=[],defers:=[],mode:=.run,kind:=.normal}:=⟨_,rfl⟩
 have G:Frame.enter P f d.toArray .normal=bD g (d.toArray++cc (fn.ntmps-d.length) undef) [] [.code c]:=by
  subst j;simp[Frame.enter,bD,hf,F]
 obtain⟨e,s,V,aF,aK,t,w1,W,⟨A,vs,B,C⟩,o,m,b,D⟩:=nu (fr:=g) (cs:=cs) (ds:=[]) z y c [] M T (WT i q O K) (fun l I=>by subst j;cases I);obtain⟨rs,u,L,n,Y,_⟩:=D;rw[hN]at u;subst u;rw[G]
 have p:∀todo,er P (lone (bD g (d.toArray++cc (fn.ntmps-d.length) undef) [] [.code c]) cs w) (lone {bD g t (rs.map mark) todo with mode:= .returning} cs w1)->
  ∃e w' fr,(∃vs s a aF aK t,e=.returned (if h:a.toArray.size=1 then a.toArray[0]else .tuple a.toArray)/\R vs s/\cN P fn.ntmps ah aF aK s t w'/\dS N ah ad w β H ah aF w' aK s.heap/\
   bI P w' aF aK s.heap vs a/\aS (aJ s.heap) vs)/\Comes P (lone (bD g (d.toArray++cc (fn.ntmps-d.length) undef) [] [.code c]) cs w) (lone fr cs w') e/\fr.fn=f/\fr.leaving P w' e:=by
  intro todo aM;obtain⟨w',t1,t2,t3,t4⟩:=takes (P:=P) (fr:={bD g t (rs.map mark) todo with mode:=.returning}) (cs:=cs) rfl rs w1 L (fun r i=>(n r i).2.2.2);have S:∀k,aF k->w'.heap[k]?=w1.heap[k]?:=fun k hk=>t3 k (fun i=>(n k i).2.2.1 hk);have v:cN P fn.ntmps ah aF aK s t w':=⟨m.heap.shut b.eC (R:=fun k=>k∈rs) (fun x hx=>⟨(n x hx).2.1,(n x hx).2.2.1⟩) t2 t3,fun x=>aB.mono (fun _ x=>x) S (cz.refl _ _) _ _ (m.gZ x) (m.env x),m.gZ,m.size⟩
  have E:dS N ah ad w β H ah aF w' aK s.heap:=⟨fun _ x=>x,b.bQ,b.fresh,⟨by rw[t2];exact b.ext.size,fun k hk=>(t3 k (fun J=>by
   have:=(n k J).1;have:=hk.elim (i.eC k) (i.bQ k);omega)).trans (b.ext.same k hk),t4.1.trans b.ext.io.1,t4.2.trans b.ext.io.2⟩,b.step,b.fy,b.loop⟩
  obtain⟨a,g1,g2,g3⟩:=Jp v B;have Q:(results fn t).run P w'=.ok (if h:a.toArray.size=1 then a.toArray[0]else .tuple a.toArray) w':=by
   simp only[results];rw[ck];rw[hl,hn]
   erw [g1]
   rfl
  refine⟨_,w',{bD g t [] todo with mode:=.returning},⟨vs,s,a,aF,aK,t,rfl,C,v,E,g2,g3⟩,hp aM t1,by subst j;rfl,?_⟩;subst j;exact⟨rfl,rfl,rfl,fn,hf,Q⟩
 cases e with
 |exit id=>exact A.elim
 |normal=>
  exact p [] (hp o (.one (eo (by subst j;simp[stepG,stepG.exec,bD]))))
 |ret=>
  obtain⟨U,o⟩:=o;exact p (.code .ret::U) (hp o (.one (eo (by subst j;simp[stepG,stepG.exec,bD]))))
theorem Ma{f:ei}{fn:Func}{c:Code}(n:mr P ag)(m:tZ P ag fit)(A:Enters P f)(hf:P.funcs[f]?=some fn)(z:fn.body=some c)(E:codeOk fit fn.ntmps c=true)
 {args:List PV}{v:PV}(D:args.length<=fn.ntmps)
 (I:cg P ag (fn.ntmps,0) c (fun e s=>(match e with
  | .exit _=>False
  |_=>True)/\∃vs,fY P s fn.results.toList=some vs/\eM s.heap 9 (oneOf vs)=some v) ⟨jl 0 (args.map .p),[]⟩):sW P f args v:=by
 refine⟨A,fun w ad J C B y=>?_⟩;have F:bV P w ad ⟨id,id⟩ [] (fun k=>k<w.heap.size):=⟨by simp,by simp,by simp,C,fun _ h=>h,B⟩
 refine(JI n m hf z E (R:=fun vs s=>eM s.heap 9 (oneOf vs)=some v) (by simpa using D) I F (jV.2 y) (ju _ _)).mono ?_;rintro e w' ⟨vs,s,K,aF,aK,t,rfl,x,hs,d,G,H⟩;obtain⟨q,r⟩:=KC G H;have u:=yY hs.heap _ _ _ x r _ q;refine⟨_,Ex aF aK s.heap,rfl,fun k hk=>.inl (d.bQ k hk),?_,?_,d.ext.size,fun k hk=>d.ext.same k (.inl hk),d.ext.io,u⟩
 ·rintro k (hk|⟨b,o,j,g,rfl⟩)
  ·rcases d.fresh k hk with h|h
   ·exact .inl h
   ·exact .inr (by omega)
  ·by_cases l:aK.aq b<w.heap.size
   ·
    left;have a:=hs.heap.cM b o j;have:aF (aK.aq b)\/¬(aK.aq b<w.heap.size):=by
     have key:∀fz,cJ aF aK (fun k=>k<w.heap.size) fz b->aF (aK.aq b)\/¬(aK.aq b<w.heap.size):=fun fz h=>by
      cases fz with
      |true=>exact .inl h
      |false=>exact .inr h.2
     cases o with
     |hole=>exact g.elim
     |dead=>exact g.elim
     |box fz t=>obtain⟨_,_,_,_,h,_⟩:=a;exact key _ h
     |arr k aA ai es=>
      rcases a with a|⟨_,_,_,_,_,_,_,_,_,_,h,_⟩
      ·exact(g a).elim
      ·exact key _ h
     |map fz es=>obtain⟨_,_,_,_,h⟩:=a;exact key _ h
     |dG s pos=>obtain⟨_,_,_,h⟩:=a;exact key _ h
     |loop L=>obtain⟨_,_,_,_,_,_,h⟩:=a;exact key _ h
    rcases this with h|h
    ·rcases d.fresh _ h with i|i
     ·exact i
     ·exact(i l).elim
    ·exact(h l).elim
   ·exact .inr (by omega)
 ·rintro k (hk|⟨b,o,j,g,rfl⟩)
  ·exact hs.heap.bQ k hk
  ·exact hs.heap.ny j g
def uS(P:dz)(a:List ec)(N:Nat)(H':aj)(v:AV)(e:bA)(s:St):Prop:=
 (match e with
  | .exit _=>False
  |_=>True)/\∃vs,fY P s a=some vs/\oneOf vs=v/\(H'=s.heap\/(de N s ⟨[],H'⟩/\aE (aJ H') v))
theorem Yq{f:ei}{fn:Func}{c:Code}(q:mr P ag)(p:tZ P ag fit)(u:Enters P f)(hf:P.funcs[f]?=some fn)(j:fn.body=some c)(A:codeOk fit fn.ntmps c=true)
 {args:List AV}{H H':aj}{v:AV}(z:args.length<=fn.ntmps)(G:cg P ag (fn.ntmps,H.length) c (uS P fn.results.toList H.length H' v) ⟨jl 0 args,H⟩):cS P f H args H' v:=by
 refine⟨u,fun w ad ah β I B r C=>?_⟩;refine(JI q p hf j A (R:=fun vs s=>oneOf vs=v/\(H'=s.heap\/(de H.length s ⟨[],H'⟩/\aE (aJ H') v))) z G B r C).mono ?_;rintro e w' ⟨vs,s,g,aF,aK,t,rfl,⟨rfl,a⟩,hs,m,F,E⟩;obtain⟨i,k⟩:=KC F E;obtain⟨d,k1,k2,k3⟩:dS H.length ah ad w β H ah aF w' aK H'/\bV P w' aF aK H' ah/\aB P w' aF aK H' (oneOf vs) (if h:g.toArray.size=1 then g.toArray[0]else .tuple g.toArray)/\aE (aJ H') (oneOf vs):=by
  rcases a with rfl|⟨a,D⟩
  ·exact⟨m,hs.heap,i,k⟩
  ·refine⟨m.trans (a.fC (β:=aK) (ah:=ah) (ad:=aF) (w:=w')),(a.rel hs).heap,?_,D⟩;rcases a with a|a
   ·have e:H'=s.heap:=by rw[<-a]
    rw[e];exact i
   ·exact aB.mono (fun _ x=>x) (fun _ _=>rfl) a.1.step _ _ k i
 refine⟨_,aK,aF,rfl,⟨d.bQ,d.fresh,d.ext,d.step.full,k1,fun x hx=>?_,fun b j=>?_⟩,k2,k3⟩
 ·obtain⟨o,n,y⟩:=hx;exact d.fy x (hz.1 n).1 ⟨o,n,y⟩
 ·obtain⟨L,l⟩:=j;exact d.loop b (hz.1 l).1 ⟨L,l⟩
theorem cN.post{n:Nat}{ah ad aF:Nat->Prop}{β aK:Bd}{s:St}{H':aj}{t:Array dl}{w w':dy}(h:cN P n ah ad β s t w)(a:bZ P ah ad w β s.heap aF w' aK H'):cN P n ah aF aK ⟨s.env,H'⟩ t w':=
 ⟨a.rel,fun x=>aB.mono a.bQ (fun k hk=>a.ext.same k (.inr hk)) a.step _ _ (h.gZ x) (h.env x),fun x=>aE.mono a.fy _ (h.gZ x),h.size⟩
def rZ:List Tmp->List AV->Env->Env
 |t::ts,v::vs,e=>rZ ts vs ((t,v)::e)
 |_,_,e=>e
def iw:bA->Option Code
 | .normal=>none
 | .exit id=>some (.exit id)
 | .ret=>some .ret
def ub(b:Nat)(K:aj->AV->Prop)(e:bA)(s:St):Prop:=
 match s.heap[b]? with
 |some (.loop L)=>K (s.heap.set b (.loop {L with st:=if(iw e).isNone then .ready else .done,pending:=iw e})) (.p (.bool (iw e).isNone))
 |_=>False
def yX(P:dz)(ag:ei->Bool)(q:Cx)(b:Nat)(body:Code)(K:aj->AV->Prop)(e:bA)(s:St):Prop:=
 match e,s.heap[b]? with
 | .normal,some (.loop L)=>L.st=.ready/\cg P ag q body (ub b K) ⟨s.env,s.heap.set b (.loop {L with st:=.busy})⟩
 |_,_=>False
def zO(P:dz)(ag:ei->Bool)(L:ek)(b:Nat)(args:List AV)(H:aj)(K:aj->AV->Prop):Prop:=
 cg P ag (L.n,H.length) L.assign (yX P ag (L.n,H.length) b L.body K) ⟨rZ L.params args L.env,H⟩
def rM(ts:List Tmp)(a:List dl)(t:Array dl):Array dl:=(ts.zip a).foldl (fun t(p,v)=>t.setIfInBounds p v) t
theorem Kf{w:dy}{ad:Nat->Prop}{β:Bd}{H:aj}:∀{ts:List Tmp}{vs:List AV}{xs:List dl}{e:Env}{t:Array dl},(∀x∈ts,x<t.size)->bI P w ad β H vs xs->aS (aJ H) vs->(∀x,aB P w ad β H (aN e x) (t.getD x undef))->(∀x,aE (aJ H) (aN e x))->
 (rM ts xs t).size=t.size/\(∀x,aB P w ad β H (aN (rZ ts vs e) x) ((rM ts xs t).getD x undef))/\(∀x,aE (aJ H) (aN (rZ ts vs e) x))
 |[],vs,xs,e,t,_,a,_,b,c=>by
  cases vs<;>exact⟨rfl,b,c⟩
 |p::ts,[],xs,e,t,_,a,_,b,c=>by
  simp only[bI]at a;subst a;exact⟨rfl,b,c⟩
 |p::ts,v::vs,xs,e,t,f,a,d,b,c=>by
  simp only[bI]at a;obtain⟨y,h,rfl,k1,k2⟩:=a;simp only[aS]at d;have g:p<t.size:=f p (by simp);obtain⟨g1,g2,g3⟩:=Kf (ts:=ts) (vs:=vs) (xs:=h) (e:=(p,v)::e) (t:=t.setIfInBounds p y) (fun x hx=>by simpa using f x (by simp[hx])) k2 d.2
   (fun x=>by
    simp only[aN]
    by_cases hx:x=p
    ·subst hx;simp[g];exact k1
    ·simp only[hx,if_false,ce,Array.getElem?_setIfInBounds_ne (Ne.symm hx)];simpa using b x)
   (fun x=>by
    simp only[aN]
    split
    ·exact d.1
    ·exact c x)
  exact⟨by simpa[rM]using g1,g2,g3⟩
theorem zip_toArray(a:List Tmp)(b:List dl)(t:Array dl):(a.toArray.zip b.toArray).foldl (fun t(p,v)=>t.setIfInBounds p v) t=rM a b t:=by
 unfold rM;rw[<-c6];simp
theorem Yo(I:mr P ag)(G:tZ P ag fit){b:Nat}{L:ek}{H H':aj}{args:List AV}{v:AV}(f:H[b]?=some (.loop L))(aA:args.length=L.params.length)(aC:∀x∈L.params,x<L.n)
 (ar:codeOk fit L.n L.assign=true)(hc:codeOk fit L.n L.body=true)(aJ:zO P ag L b args H (fun af aT=>aT=v/\de H.length ⟨[],af⟩ ⟨[],H'⟩)):fJ P b H args H' v:=by
 refine⟨⟨L,f⟩,fun w ad ah β i B W av=>?_⟩;obtain⟨tmps,defers,fn,ap,M,aq,aX⟩:=B.cM b _ f;have s:b<H.length:=(hz.1 f).1;have ax:=(uh W).1;have j:=run_yield (P:=P) (args:=i.toArray) ap (by simp[ax,aA]);obtain⟨q1,aP,aQ⟩:=Kf (ts:=L.params) (vs:=args) (xs:=i) (e:=L.env) (t:=tmps) (fun x hx=>by rw[M];exact aC x hx) W av aq (B.refs b _ f);rw[zip_toArray]at j;refine⟨fn,_,_,_,j,fun K ae=>?_⟩;obtain⟨c,z⟩:∃c:ew,c={fn:=fn,tmps:=#[],todo:=[],defers:=[],mode:=.run,kind:=.normal,roundOf:=some (β.aq b)}:=⟨_,rfl⟩
 have g:c.roundOf=some (β.aq b):=by subst z;rfl
 have A:c.kind=.normal:=by subst z;rfl
 have ay:Frame.round (β.aq b) fn (rM L.params i tmps) L.assign L.body .normal=bD c (rM L.params i tmps) [] [.code L.assign,.beginRound,.code L.body]:=by subst z;rfl
 have V:sv H.length c β H:=fun l Z=>by
  rw[g]at Z;cases Z;exact⟨b,s,⟨L,f⟩,rfl⟩
 obtain⟨e1,s1,aW,aV,aU,t1,w1,an,g1,g2,g3,g4,g5⟩:=nu (N:=H.length) (fr:=c) (cs:=K::ae) (ds:=[]) I G L.assign [.beginRound,.code L.body] ar aJ ⟨B,aP,aQ,q1.trans M⟩ V;unfold yX at g1
 split at g1
 case h_2=>exact g1.elim
 rename_i q Q;obtain⟨g1,g6⟩:=g1;obtain⟨bc,m1,_,_,m4,m5⟩:=g5;have aH:=m5 (by rw[g];rfl);subst aH;obtain rfl:an=[]:=m1;have al:aU.aq b=β.aq b:=(g4.step.loop b s ⟨_,f,trivial⟩ ⟨q,Q⟩).2;obtain⟨rec,ac,aR,aS,a7,a8,a9,ba,bb,D⟩:=Dy g3.heap Q .busy q.pending;rw[al]at ac D;have X:=run_beginRound (P:=P) ac (aR.trans g1);have aw:({rec with state:=.busy}:Loop)={rec with state:=.busy,pending:=q.pending}:=by rw[<-aS]
 rw[aw]at X;have T:=g4.trans (D.fC (N:=H.length));obtain⟨e2,s2,r,p,m,t2,F,ao,k1,k2,k3,k4,k5⟩:=nu (N:=H.length) (fr:=c) (cs:=K::ae) (ds:=[]) I G L.body [] hc g6 (g3.post D) (V.fC T);unfold ub at k1
 split at k1
 case h_2=>exact k1.elim
 rename_i J S;obtain⟨rfl,Y⟩:=k1;obtain⟨bd,aL,_,_,aM,aO⟩:=k5;have aI:=aO (by rw[g];rfl);subst aI;obtain rfl:ao=[]:=aL;have aY:∀k,r k->ah k:=fun k hk=>(m4 k ((aM k hk).resolve_right (by simp))).resolve_right (by simp);have U:=T.trans k4;have am:m.aq b=β.aq b:=(U.step.loop b s ⟨_,f,trivial⟩ ⟨J,S⟩).2;obtain⟨E,ab,aZ,a0,a1,a3,a4,a5,a6,C⟩:=Dy k3.heap S (if(iw e2).isNone then .ready else .done) (iw e2);rw[am]at ab C;have u:=run_endRound (P:=P) (iw e2) ab;have au:=U.trans (C.fC (N:=H.length));have d:=au.trans (Y.fC (β:=m) (ah:=r) (ad:=p) (w:=F.putObj (β.aq b) (.loop {E with state:=if(iw e2).isNone then .ready else .done,pending:=iw e2})));refine⟨.bool (iw e2).isNone,F.putObj (β.aq b) (.loop {E with state:=if(iw e2).isNone then .ready else .done,pending:=iw e2}),m,p,?_,?_,by simp[aB,aD],by simp[aE]⟩
 ·rw[ay];refine hp (g2:er P _ _) ((hr (stepR_beginRound (b:=c) (a:=⟨t1,[]⟩) g X)).trans ?_);cases e2 with
  |normal=>exact hp (k2:er P _ _) (.one (stepR_round_end (b:=c) (a:=⟨t2,[]⟩) g A u))
  |exit id=>
   obtain⟨aK,ak,a2⟩:=k2;exact hp a2 (.one (stepR_round_exit (b:=c) (a:=⟨t2,[]⟩) g A (by rw[ak];rfl) u))
  |ret=>
   obtain⟨aK,a2⟩:=k2;exact hp a2 (.one (stepR_round_ret (b:=c) (a:=⟨t2,[]⟩) g A u))
 ·have aF:cN P 0 r p m ⟨[],s2.heap.set b (.loop {J with st:=if(iw e2).isNone then .ready else .done,pending:=iw e2})⟩ #[] (F.putObj (β.aq b) (.loop {E with state:=if(iw e2).isNone then .ready else .done,pending:=iw e2})):=
   ⟨C.rel,fun x=>by simp[aN,aB,aD],fun x=>by simp[aN,aE],rfl⟩
  have aG:=(Y.rel aF).heap;refine⟨d.bQ,d.fresh,d.ext,d.step.full,aG.shut d.eC (R:=fun _=>False) (fun _ h=>h.elim) rfl (fun _ _=>rfl),fun x hx=>?_,fun y j=>?_⟩
  ·obtain⟨o,aa,az⟩:=hx;exact d.fy x (hz.1 aa).1 ⟨o,aa,az⟩
  ·obtain⟨ai,O⟩:=j;exact d.loop y (hz.1 O).1 ⟨ai,O⟩
end
section
variable{P:dz}
theorem MR{w:dy}{ad:Nat->Prop}{b:Bool}{v:dl}:aD P w ad (.bool b) v↔v=.bool b:=by simp[aD]
theorem D9{w:dy}{ad:Nat->Prop}{k:en}{n:Int}{v:dl}:aD P w ad (.int k n) v↔v=.int k n:=by simp[aD]
theorem Od{w:dy}{ad:Nat->Prop}{s:List Nat}{v:dl}:aD P w ad (.str s) v↔∃bs:ByteArray,v=.string bs/\s=bs.data.toList.map (·.toNat):=by simp[aD]
theorem fp{s:Sem dl}{w:dy}{a:dl}(h:s.run P w=.ok a w):(do pure (Next.value (<-s)):Sem Next).run P w=.ok (.value a) w:=by simp[h]
theorem vQ{s:Sem dl}{w w':dy}{a:dl}(h:s.run P w=.ok a w'):(do pure (Next.value (<-s)):Sem Next).run P w=.ok (.value a) w':=by simp[h]
theorem yM{T:dq}{v:AV}{w:dy}{ad:Nat->Prop}{β:Bd}{H:aj}{cs:List dl}(hk:kindOf P T=aa v)(d:bu P w ad β H v cs):P.cellsOf T=cs.length/\∃i,P.info? T=some i/\i.size=cs.length:=by
 obtain⟨c,a⟩:=oA d;have b:P.cellsOf T=cs.length:=by
  rw[c,<-hk];unfold kindOf at hk⊢
  split at hk
  ·split at hk<;>rename_i hc
   ·simp at hc;rw[if_pos (by simpa using hc)];simp[bG,hc.2]
   ·exact(a hk.symm).elim
  ·split at hk<;>rename_i hc
   ·simp at hc;rw[if_pos (by simpa using hc)];simp[bG,hc]
   ·exact(a hk.symm).elim
  ·split at hk<;>rename_i hc
   ·simp at hc;rw[if_pos (by simpa using hc)];simp[bG,hc]
   ·exact(a hk.symm).elim
  ·exact(a hk.symm).elim
 refine⟨b,?_⟩;cases hi:P.info? T with
 |none=>
  have:kindOf P T=.bad:=by simp[kindOf,he,hi]
  rw[this]at hk;exact(a hk.symm).elim
 |some i=>exact⟨i,rfl,by simpa[hd,hi]using b⟩
variable{o:Oper}{ρ:dp->AV}{base:Nat}
theorem RX{x:dp}(a:o.op=.move x\/o.op=.assign x):bB P o ρ base {v:=ρ x}:=by
 refine bB.same fun H w ad ah β c d b _=>?_;refine⟨c x,?_,b x ?_⟩
 ·rcases a with a|a<;>simp[dx,a]
 ·rcases a with a|a<;>simp[a,gt]
theorem aKe{c a b:dp}{t:Bool}(d:o.op=.pick c a b)(hc:ρ c=.p (.bool t)):bB P o ρ base {v:=if t then ρ a else ρ b}:=by
 refine bB.same fun H w ad ah β g h f _=>?_;have e:=(f c (by simp[d,gt])).1;rw[hc]at e;simp only[aB,MR]at e;refine⟨if t then g a else g b,by simp[dx,d,e,asBool],?_⟩;cases t with
 |true=>exact f a (by simp[d,gt])
 |false=>exact f b (by simp[d,gt])
theorem Kj{t:dp}{i:Nat}{vs:List AV}{v:AV}(g:o.op=.extract t i)(e:ρ t=.aC vs\/∃l,ρ t=.p (.aC l)/\vs=l.map .p)(hi:vs[i]?=some v):bB P o ρ base {v}:=by
 refine bB.same fun H w ad ah β j m h _=>?_;obtain⟨d,f⟩:=h t (by simp[g,gt]);obtain⟨c,k1,k2,k3⟩:∃c,bI P w ad β H vs c/\j t=.tuple c.toArray/\aS (aJ H) vs:=by
  rcases e with e|⟨l,e,rfl⟩
  ·rw[e]at d f;simp only[aB,aE]at d f;obtain⟨c,a,b⟩:=d;exact⟨c,a,b,f⟩
  ·rw[e]at d;simp only[aB,aD]at d;obtain⟨c,a,b⟩:=d;exact⟨c,jV.2 a,b,ju _ _⟩
 obtain⟨g1,g2⟩:=uh k1;have k:i<vs.length:=(hz.1 hi).1;have hx:c[i]?=some (c[i]'(by omega)):=hK (by omega);have g3:=g2 i;rw[hi,hx]at g3;refine⟨c[i]'(by omega),?_,by simpa using g3,c7.1 k3 v (hS hi)⟩;simp only[dx,g,Instr.extract,k2];simp[hx]
theorem aKa{c:e6}{T j:dq}{x y:dp}{k d:en}{a b:Int}{K:PV->Prop}(g:o.op= .binOp c T x y j)(hx:ρ x= .p (.int k a))(t:ρ y= .p (.int d b))(hk:k=d\/c= .shl\/c= .shr)
 (h:qt c k a b K)(al:List (Nat×Obj)):∃v,K v/\bB P o ρ base {v:=.p v,al}:=by
 have key:∀v,K v->(∀w:dy,(binOp c T (.int k a) (.int d b)).run P w= .ok (match v with| .int k n=> .int k n| .bool b=> .bool b|_=>undef) w)->(∀w ad,aD P w ad v (match v with| .int k n=> .int k n| .bool b=> .bool b|_=>undef))->
  ∃v,K v/\bB P o ρ base {v:=.p v,al}:=by
  intro v s r q;refine⟨v,s,bB.same fun H w ad ah β z u i _=>?_⟩;have e:=(i x (by simp[g,gt])).1;have f:=(i y (by simp[g,gt])).1;rw[hx]at e;rw[t]at f;simp only[aB,D9]at e f;refine⟨_,?_,by simp only[aB];exact q w ad,by simp[aE]⟩;simp only[dx,g,e,f];refine fp ?_;have m:(eqGuard c T x y (.int k a) (.int d b)).run P w=.ok () w:=by
   unfold eqGuard
   split<;>simp
  simp[m,r w]
 cases c<;>simp only[qt]at h
 case add|sub|mul|and|or|xor|andNot|eql|neq|lss|leq|gtr|geq=>
  obtain rfl:k=d:=by rcases hk with h|h|h<;>first|exact h|cases h
  exact key _ h (fun w=>by simp[binOp,ha,hb,Op.intCmp]) (fun w ad=>by simp[aD])
 case quo|rem=>
  obtain rfl:k=d:=by rcases hk with h|h|h<;>first|exact h|cases h
  exact key _ h.2 (fun w=>by simp[binOp,Op.intDiv,h.1]) (fun w ad=>by simp[aD])
 case shl|shr=>
  have l:¬b<0:=by omega
  exact key _ h.2 (fun w=>by simp[binOp,Op.shift,l]) (fun w ad=>by simp[aD])
theorem Fs{u:UnOp}{T:dq}{x:dp}{v r:PV}(c:o.op= .unOp u T x)(hx:ρ x= .p v)
 (h:(u=.not/\∃b,v=.bool b/\r=.bool (!b))\/(u=.neg/\∃k n,v=.int k n/\r=.int k (k.wrap (0-n)))\/
  (u=.xor/\∃k n,v=.int k n/\r=.int k (k.wrap (BitVec.ofInt k.bits (if k.signed then -1 else k.max)^^^BitVec.ofInt k.bits n).toNat))):bB P o ρ base {v:=.p r}:=by
 refine bB.same fun H w ad ah β f e d _=>?_;have a:=(d x (by simp[c,gt])).1;rw[hx]at a;simp only[aB]at a;rcases h with⟨rfl,b,rfl,rfl⟩|⟨rfl,k,n,rfl,rfl⟩|⟨rfl,k,n,rfl,rfl⟩
 ·rw[MR]at a;exact⟨_,by simp only[dx,c,a];exact fp (by simp[g8];rfl),by simp[aB,aD],by simp[aE]⟩
 ·rw[D9]at a;exact⟨_,by simp only[dx,c,a];exact fp (by simp[g8,ha];rfl),by simp[aB,aD],by simp[aE]⟩
 ·rw[D9]at a;exact⟨_,by simp only[dx,c,a];exact fp (by simp[g8,hb];rfl),by simp[aB,aD],by simp[aE]⟩
end
section
variable{P:dz}{w:dy}{ad ah:Nat->Prop}{β:Bd}{H:aj}
variable{o:Oper}{ρ:dp->AV}{base:Nat}
theorem mn(H:aj)(b:Nat)(o':Obj):bm H ([]++newAt b [o'])=H.set b o':=rfl
theorem Xk{x:AV}{T:dq}(hs:aa x≠ .bad)(hx:jM T (aa x)=true)(hrefs:∀(H:aj)(w:dy)(ad ah:Nat->Prop)(β:Bd)(d:dp->dl),bV P w ad β H ah->
 (∀y∈o.op.operands,aB P w ad β H (ρ y) (d y)/\aE (aJ H) (ρ y))->∃a,aB P w ad β H x a/\aE (aJ H) x/\
  (dx d o).run P w=.ok (.value (.pointer (some ⟨w.heap.size,0,none⟩))) {w with heap:=w.heap.push (.cells a.cells T)}):
 bB P o ρ base {v:=.ptr base [],aP:=[.box false x]}:=by
 intro H w ad ah β d b m _ j;obtain⟨a,f,e,g⟩:=hrefs H w ad ah β d b m;have c:H[base]?=some .hole:=by simpa using j 0 (by simp)
 have i:=zi f hs;have aM:=zx (β:=β) c (.box false x) w.heap.size 0;have al:∀y,aJ H y->aJ (H.set base (.box false x)) y:=mF c (fun _ h=>h.elim);have l:=uc (cap:=0) b c (ob:=.cells a.cells T) (o':=.box false x)
  ⟨a.cells,T,by simp[Bd.at],bu.mono (fun _ x=>x) (fun k hk=>v8 _ _ (b.bQ k hk)) aM _ _ e i,by
   simp only[cJ,Bd.at,if_true,da,if_false];exact⟨fun h=>i0 _ (b.bQ _ h),fun h=>i0 _ (b.eC _ h)⟩,by simp,hx⟩ (aE.mono al _ e)
 refine⟨_,_,_,_,ad,g,.inl rfl,l,?_,?_⟩
 ·simp only[aB,bO,bS,mn];exact⟨rfl,_,_,0,rfl,rfl,fun _=>by simp[Bd.at]⟩
 ·simp only[aE,mn];exact⟨.box false x,by simp only;rw[hA (hz.1 c).1],trivial⟩
theorem aJ7{T:dq}{x:dp}(a:o.op=.box T x)(hs:aa (ρ x)≠.bad)(hx:jM T (aa (ρ x))=true):bB P o ρ base {v:=.ptr base [],aP:=[.box false (ρ x)]}:=by
 refine Xk (T:=T) hs hx fun H w ad ah β e f d=>?_;obtain⟨b,c⟩:=d x (by simp[a,gt]);refine⟨e x,b,c,?_⟩;simp only[dx,a];simp[Instr.box,newVar,newRow]
theorem Co{w:dy}{ad:Nat->Prop}:∀(n:Nat)(T:dq)(cs:List dl)(t:PV),uH P n T cs=some t->aU P w ad t cs/\kindOf P T=aI t
 |0,_,_,_,h=>by simp[uH]at h
 |n+1,T,cs,t,h=>by
  have go:∀(b:List dq)(l:List Nat)(cs:List dl)(fs:List PV),pV P (uH P n) b l cs=some fs->∃a,bk P w ad l fs a/\a.flatten=cs:=by
   intro b
   induction b with
   |nil=>
    intro l cs fs h;cases l with
    |nil=>
     cases cs with
     |nil=>simp[pV]at h;subst h;exact⟨[],by simp[bk]⟩
     |cons c cs=>simp[pV]at h
    |cons s i=>simp[pV]at h
   |cons T b q=>
    intro l cs fs h;cases l with
    |nil=>simp[pV]at h
    |cons s i=>
     simp only[pV]at h
     split at h
     case isFalse=>simp at h
     rename_i m
     split at h
     case h_2=>simp at h
     rename_i v vs g p
     split at h
     case isFalse=>simp at h
     rename_i r;simp at h;subst h;obtain⟨e,_⟩:=Co n T _ v g;obtain⟨a,f,j⟩:=q i _ vs p;refine⟨cs.take s::a,by simp only[bk];exact⟨_,_,rfl,e,m,f⟩,?_⟩;simp[j]
  unfold uH at h
  split at h
  ·rename_i hk
   split at h
   case h_2=>simp at h
   rename_i c
   split at h
   ·simp at h
   ·rename_i v o;simp at h;subst h;have g:=Jx (P:=P) (w:=w) (ad:=ad) c;have d:aI (ofConst c)=.leaf:=by
     unfold ofConst at o⊢
     split<;>simp_all [aI]
    exact⟨(ug d _).2 ⟨c,rfl,g⟩,by rw[hk,d]⟩
  ·rename_i u hk
   split at h
   case h_2=>simp at h
   rename_i l d
   split at h
   case h_2=>simp at h
   rename_i fs k;simp at h;subst h;obtain⟨a,e,f⟩:=go _ _ _ _ k;refine⟨by simp only[aU];exact⟨l,a,d,e,f.symm⟩,by simp[aI,hk]⟩
  ·simp at h
theorem rk{T:dq}{z:PV}(h:b9 P T=some z):∃i a,P.info? T=some i/\i.zero=some a/\(∀(w:dy)(ad:Nat->Prop),aU P w ad z a.cells.toList)/\kindOf P T=aI z:=by
 unfold b9 at h;cases hi:P.info? T with
 |none=>simp[hi]at h
 |some i=>
  simp only[hi,j2]at h;cases b:i.zero with
  |none=>simp[b]at h
  |some a=>
   simp only[b]at h
   split at h
   case isFalse=>simp at h
   exact⟨i,a,rfl,b,fun w ad=>(Co 40 T _ z h).1,(Co (w:=default) (ad:=fun _=>True) 40 T _ z h).2⟩
theorem WN{T:dq}{z:PV}(h:b9 P T=some z):∃a,(∀w:dy,(zeroValue T).run P w=.ok a w)/\∀(w:dy)(ad:Nat->Prop),aD P w ad z a:=by
 obtain⟨i,a,d,e,f,g⟩:=rk h;refine⟨a,fun w=>by simp[zeroValue,typeInfo,d,e],fun w ad=>?_⟩;have b:AW a (aI z)=true:=by
  unfold b9 at h;simp only[d,j2,e]at h
  split at h
  ·rename_i j;rw[<-g];exact j
  ·simp at h
 have hc:=f w ad;cases hs:aI z with
 |bad=>exact((pO hc).2 hs).elim
 |leaf=>
  rw[hs]at b;obtain⟨c,k1,k2⟩:=(ug hs _).1 hc;cases a<;>simp[AW]at b<;>(simp[hw]at k1;subst k1;exact k2)
 |agg u=>
  rw[hs]at b;cases a<;>simp[AW]at b;have:=(xc hs _).1 hc;simpa[hw]using this
theorem ua{T:dq}{i:ea}{a:dl}(h:P.info? T=some i)(b:i.zero=some a)(w:dy):(zeroValue T).run P w=.ok a w:=by
 simp[zeroValue,typeInfo,h,b]
theorem YC{T:dq}{z:PV}(j:o.op=.alloc T)(m:b9 P T=some z)(hx:jM T (aI z)=true):bB P o ρ base {v:=.ptr base [],aP:=[.box false (.p z)]}:=by
 obtain⟨i,b,d,e,f,q⟩:=rk m;intro H w ad ah β n a r _ g;have c:H[base]?=some .hole:=by simpa using g 0 (by simp)
 have l:(dx n o).run P w=.ok (.value (.pointer (some ⟨w.heap.size,0,none⟩))) {w with heap:=w.heap.push (.cells b.cells T)}:=by
  simp only[dx,j];simp[Instr.alloc,ua d e,newVar,newRow]
 have k:=uc (cap:=0) a c (ob:=.cells b.cells T) (o':=.box false (.p z))
  ⟨b.cells,T,by simp[Bd.at],by simp only[bu];exact f _ _,by
   simp only[cJ,Bd.at,if_true,da,if_false];exact⟨fun h=>i0 _ (a.bQ _ h),fun h=>i0 _ (a.eC _ h)⟩,by simp,by simpa[aa]using hx⟩ (by simp[Obj.refs,aE])
 refine⟨_,_,_,_,ad,l,.inl rfl,k,?_,?_⟩
 ·simp only[aB,bO,bS,mn];exact⟨rfl,_,_,0,rfl,rfl,fun _=>by simp[Bd.at]⟩
 ·simp only[aE,mn];exact⟨.box false (.p z),by simp only;rw[hA (hz.1 c).1],trivial⟩
theorem DP{T:dq}{a:dp}{v:AV}(h:o.op= .load T a){d:dp->dl}{aq off:Nat}{c:List dl}(g:d a= .pointer (some ⟨aq,off,none⟩))(hk:kindOf P T=aa v)
 (i:bu P w ad β H v c)(hc:ir w aq off c):∃b,(dx d o).run P w=.ok (.value b) w/\aB P w ad β H v b:=by
 obtain⟨b,e,f⟩:=Jm hk i hc;refine⟨b,?_,f⟩;simp only[dx,h,Instr.loadAt,g,gc];simp[e]
theorem AB{ai:Nat}{d:List AV}{g:List (List dl)}(h:Row P w ad β H ai d g){i:Nat}(hi:i<d.length):
 ∃a c post,g.flatten=a++c++post/\a.length=i*ai/\c.length=ai/\bu P w ad β H d[i] c/\
  ∀e c',bu P w ad β H e c'->c'.length=c.length->∃b,b.flatten=a++c'++post/\Row P w ad β H ai (d.set i e) b:=by
 obtain⟨a,c,post,j,k,o,f,l,m⟩:=uq h (hK hi);have n:c.length=ai:=by
  rw[hL]at f;rw[if_pos hi]at f;simpa using f.symm
 refine⟨a,c,post,j,?_,n,l,?_⟩
 ·rw[k,hE,i1 (by omega),hD]
 ·intro e c' hf hc;obtain⟨b,k1,k2⟩:=m e c' hf hc;exact⟨b,k1,by unfold Row;rw[List.length_set];exact k2⟩
theorem aKc{T:dq}{a:dp}(g:o.op= .load T a){H0:aj}{K:aR->Prop}(h:oQ P T H0 (ρ a) K):
 ∃e,K e/\bB P o ρ base e/\(∀p∈e.al,H0[p.1]?=some p.2)/\(∀p∈e.aL,p.1<H0.length/\p.2≠.hole):=by
 unfold oQ at h
 split at h
 ·rename_i b J m
  split at h
  case h_2=>exact h.elim
  rename_i fz t u
  split at h
  case h_2=>exact h.elim
  rename_i s hs;obtain⟨hk,h⟩:=h;refine⟨_,h,bB.same fun H w ad ah β C j n al=>?_,by simpa using u,by simp⟩;obtain⟨d,y⟩:=n a (by simp[g,gt]);rw[m]at d;simp only[aB,bO,bS]at d;have f:H[b]?=some (.box fz t):=by simpa using al
  obtain⟨_,E,I,B,x,r,d⟩:=d;obtain⟨rfl,rfl⟩:=d (.inl ⟨fz,t,f⟩);obtain⟨cs,D,k1,k2,k3,k4⟩:=j.cM b _ f;obtain⟨pre,xs,post,e1,e2,e3,_⟩:=pY k2 hs r;obtain⟨l,g1,g2⟩:=DP g x hk e3 (by rw[<-e2];exact mw k1 e1);exact⟨l,g1,g2,wF hs (j.refs b _ f)⟩
 ·rename_i b aA ai i J m
  split at h
  case h_2=>exact h.elim
  rename_i k W S q u;obtain⟨rfl,rfl,hi,h⟩:=h
  split at h
  case h_2=>exact h.elim
  rename_i s hs;obtain⟨hk,h⟩:=h;refine⟨_,h,bB.same fun H w ad ah β C j n al=>?_,by simpa using u,by simp⟩;obtain⟨d,y⟩:=n a (by simp[g,gt]);rw[m]at d;simp only[aB,bO,bS]at d;have f:H[b]?=some (.arr k aA ai q):=by simpa using al
  have A:¬di k q:=fun G=>by rw[G.2]at hi;simp at hi
  obtain⟨_,E,I,B,x,r,d⟩:=d;obtain⟨rfl,rfl⟩:=d k q f A;rcases j.cM b _ f with hold|⟨cs,D,R,rest,k1,k2,k3,_⟩
  ·exact(A hold).elim
  obtain⟨M,c,L,N,O,U,Q,_⟩:=AB k2 hi;obtain⟨pre,xs,post,e1,e2,e3,_⟩:=pY Q hs r;have F:ir w (β.aq b) (i*ai+B) xs:=by
   have:cs.toList=(M++pre)++xs++(post++L++rest):=by rw[k3,N,e1];simp
   have z:=mw k1 this;rw[hC,O,e2]at z;exact z
  obtain⟨l,g1,g2⟩:=DP g x hk e3 F;exact⟨l,g1,g2,wF hs (c7.1 (j.refs b _ f) _ (h9 hi))⟩
 ·rename_i t m;obtain⟨hk,h⟩:=h;refine⟨_,h,bB.same fun H w ad ah β C j n al=>?_,by simp,by simp⟩;obtain⟨d,y⟩:=n a (by simp[g,gt]);rw[m]at d;simp only[aB,aD]at d;obtain⟨aq,off,V,k1,k2,k3,k4⟩:=d;obtain⟨l,g1,g2⟩:=DP (β:=β) (H:=H) (v:=.p t) g k4 (by simpa[aa]using hk) (by simpa only[bu]using k1) k3;exact⟨l,g1,g2,by simp[aE]⟩
 ·exact h.elim
end
section
variable{P:dz}{w:dy}{ad ah:Nat->Prop}{β:Bd}{H:aj}
mutual
theorem Oe:∀{v:PV}{cs:List dl},aU P w ad v cs->∀c∈cs,c.oneCell'=true
 | .undef,_,h| .aC _,_,h=>by simp[aU]at h
 | .bool _,_,h| .int _ _,_,h| .dR,_,h| .aH,_,h| .fF,_,h| .iU,_,h| .gO,_,h=>by simp only[aU]at h;subst h;simp[ht]
 | .str _,_,h=>by simp only[aU]at h;obtain⟨_,rfl,_⟩:=h;simp[ht]
 | .cm _,_,h=>by simp only[aU]at h;obtain⟨_,_,_,_,_,_,rfl⟩:=h;simp[ht]
 | .cT _ _,_,h=>by simp only[aU]at h;obtain⟨_,_,_,_,_,_,_,_,_,_,_,_,rfl⟩:=h;simp[ht]
 | .seq _,_,h=>by simp only[aU]at h;rcases h with⟨_,rfl⟩|⟨_,_,_,_,_,_,_,_,_,_,_,rfl⟩<;>simp[ht]
 | .eB _,_,h=>by simp only[aU]at h;obtain⟨_,_,_,_,_,_,rfl⟩:=h;simp[ht]
 | .func _ _ _,_,h=>by simp only[aU]at h;obtain⟨_,_,_,_,rfl⟩:=h;simp[ht]
 | .st u fs,_,h=>by
  simp only[aU]at h;obtain⟨l,a,b,d,rfl⟩:=h;exact MT d
theorem MT:∀{l:List Nat}{vs:List PV}{a:List (List dl)},bk P w ad l vs a->∀c∈a.flatten,c.oneCell'=true
 |[],[],_,h=>by simp only[bk]at h;subst h;simp
 |[],_::_,_,h=>by simp[bk]at h
 |_::_,[],_,h=>by simp[bk]at h
 |n::f,v::vs,a,h=>by
  simp only[bk]at h;obtain⟨c,cs,rfl,b,d,e⟩:=h;intro x hx;simp only[hO,h1]at hx;exact hx.elim (Oe b x) (MT e x)
end
mutual
theorem zZ:∀{v:AV}{cs:List dl},bu P w ad β H v cs->∀c∈cs,c.oneCell'=true
 | .p t,_,h=>by simp only[bu]at h;exact Oe h
 | .ptr ..,_,h| .b7 ..,_,h| .sl ..,_,h| .map ..,_,h=>by simp only[bu]at h;obtain⟨v,rfl,b,_⟩:=h;simpa using b
 | .func ..,_,h=>by simp only[bu]at h;obtain⟨_,_,_,_,rfl⟩:=h;simp[ht]
 | .aC _,_,h=>by simp[bu]at h
 | .st u fs,_,h=>by
  simp only[bu]at h;obtain⟨l,a,b,d,rfl⟩:=h;exact MU d
theorem MU:∀{l:List Nat}{vs:List AV}{a:List (List dl)},bM P w ad β H l vs a->∀c∈a.flatten,c.oneCell'=true
 |[],[],_,h=>by simp only[bM]at h;subst h;simp
 |[],_::_,_,h=>by simp[bM]at h
 |_::_,[],_,h=>by simp[bM]at h
 |n::f,v::vs,a,h=>by
  simp only[bM]at h;obtain⟨c,cs,rfl,b,d,e⟩:=h;intro x hx;simp only[hO,h1]at hx;exact hx.elim (zZ b x) (MU e x)
end
theorem ri(d:bV P w ad β H ah){b:Nat}{o o':Obj}(c:H[b]?=some o)(j:o.live)(l:o'.live)(m:∀v,o.has v->o'.has v){q new:Array dl}{T:dq}
 (i:w.heap[β.aq b]?=some (.cells q T (0,0)))(e:¬ad (β.aq b)/\¬ah (β.aq b))(aM:cz β H β (H.set b o'))
 (n:fG P (w.setRow (β.aq b) new) ad β (H.set b o') ah b o')(p:o'.refs (aJ (H.set b o'))):
 bZ P ah ad w β H ad (w.setRow (β.aq b) new) β (H.set b o'):=by
 refine bZ.set d (hz.1 c).1 (fun _ _=>⟨rfl,rfl⟩) (fun _ x=>x) (fun _ x=>.inl x) (fun k hk=>by rw[eq];exact d.bQ k hk) (by rw[eq];exact iz _)
  (fun k hk _=>eb w _ k _ (hk.resolve_right (fun h=>h l))) (fun _=>.inr ⟨rfl,⟨o,c,j⟩,.inr e.1,e.2⟩) aM n p (fun r v a f=>by rw[c]at a;cases a;exact m v f) (fun L g=>by obtain⟨_,_,_,a,_⟩:=d.cM b _ g;rw[i]at a;cases a)
theorem pP{b:Nat}{o o':Obj}(j:H[b]?=some o)(hk:(∃f g t y,o= .box f t/\o'= .box g y)\/(∃k v z d l,o= .arr k v z d/\o'= .arr k v z l/\d.length=l.length)\/(∃f g d l,o= .map f d/\o'= .map g l)\/(∃s p u,o= .dG s p/\o'= .dG s u)):
 cz β H β (H.set b o'):=by
 have r:b<H.length:=(hz.1 j).1;have i:∀x,x≠b->(H.set b o')[x]?=H[x]?:=fun x hx=>hU (Ne.symm hx);have e:(H.set b o')[b]?=some o':=hA r;refine⟨?_,?_,?_,?_,?_⟩
 ·rintro x _ ⟨fz,t,h⟩;refine⟨?_,rfl⟩
  by_cases hx:x=b
  ·subst hx;rw[e]at h;cases h;rcases hk with⟨f,g,t1,t2,c,a⟩|⟨_,_,_,_,_,_,a,_⟩|⟨_,_,_,_,_,a⟩|⟨_,_,_,_,a⟩
   ·exact⟨f,t1,by rw[j,c]⟩
   all_goals cases a
  ·rw[i x hx]at h;exact⟨fz,t,h⟩
 ·rintro x _ ⟨s,p,h⟩;refine⟨?_,rfl⟩
  by_cases hx:x=b
  ·subst hx;rw[e]at h;cases h;rcases hk with⟨f,g,t1,t2,c,a⟩|⟨_,_,_,_,_,_,a,_⟩|⟨_,_,_,_,_,a⟩|⟨s1,m,w,c,a⟩
   ·cases a
   ·cases a
   ·cases a
   ·exact⟨s1,m,by rw[j,c]⟩
  ·rw[i x hx]at h;exact⟨s,p,h⟩
 ·rintro x _ ⟨fz,t,h⟩;refine⟨?_,rfl⟩
  by_cases hx:x=b
  ·subst hx;rw[e]at h;cases h;rcases hk with⟨f,g,t1,t2,c,a⟩|⟨_,_,_,_,_,_,a,_⟩|⟨f,g,e1,e2,c,a⟩|⟨s1,m,w,c,a⟩
   ·cases a
   ·cases a
   ·exact⟨f,e1,by rw[j,c]⟩
   ·cases a
  ·rw[i x hx]at h;exact⟨fz,t,h⟩
 ·intro x aA ai k d _ h
  by_cases hx:x=b
  ·subst hx;unfold fI at h⊢;rw[e]at h;cases h;rcases hk with⟨f,g,t1,t2,c,a⟩|⟨k0,v,z,n,A,c,a,q⟩|⟨_,_,_,_,_,a⟩|⟨_,_,_,_,a⟩
   ·cases a
   ·cases a;refine⟨k,n,by rw[j,c],by omega,?_,fun _=>⟨rfl,rfl⟩⟩;unfold di;rw[<-hF,<-hF,q]
   ·cases a
   ·cases a
  ·unfold fI at h⊢;rw[i x hx]at h;exact⟨k,d,h,iz _,Iff.rfl,fun _=>⟨rfl,rfl⟩⟩
 ·rintro x _ ⟨L,h⟩;refine⟨?_,rfl⟩
  by_cases hx:x=b
  ·subst hx;rw[e]at h;cases h;rcases hk with⟨f,g,t1,t2,c,a⟩|⟨_,_,_,_,_,_,a,_⟩|⟨_,_,_,_,_,a⟩|⟨_,_,_,_,a⟩<;>cases a
  ·rw[i x hx]at h;exact⟨L,h⟩
variable{o:Oper}{ρ:dp->AV}{base:Nat}
theorem Kt{T:dq}{a x:dp}(p:o.op= .store T a x){e:dp->dl}{aq off:Nat}{b:List dl}{d:Array dl}{f:dq}(j:e a= .pointer (some ⟨aq,off,none⟩))
 (hx:(e x).cells.toList=b)(q:P.cellsOf T=b.length/\∃i,P.info? T=some i/\i.size=b.length)(k:w.heap[aq]?=some (.cells d f (0,0)))(n:∀c∈b,c.oneCell'=true)(m:off+b.length<=d.size):
 (dx e o).run P w=.ok .skip (w.setRow aq (d.toList.take off++b++d.toList.drop (off+b.length)).toArray):=by
 obtain⟨_,i,hi,l⟩:=q;have h:(sizeOf T).run P w=.ok b.length w:=by simp[sizeOf,typeInfo,hi,l]
 have g:=em (P:=P) aq off f b 0 d w k (by simpa using m) n;simp only[i4]at g;have r:(e x).cells.size=b.length:=by rw[<-hx];simp
 simp only[dx,p,Instr.storeAt,j,gc];simp[storeVar,h,r,hx,g]
theorem CW(u:dq)(fs:List AV):aa (iK u fs)=.agg u:=by
 unfold iK;split<;>rfl
theorem XZ{t:AV}{c:List (dq×Nat)}{x s d:AV}(hs:fo t c=some s)(a:gu t c x=some d)(e:aa s=aa x):aa d=aa t:=by
 cases c with
 |nil=>
  simp only[gu,j4]at a;subst a;have:s=t:=by
   cases t<;>simp[fo]at hs<;>exact hs.symm
  rw[<-e,this]
 |cons p r=>
  obtain⟨u,i⟩:=p;cases t<;>simp only[gu]at a
  case p t=>
   split at a
   case isFalse=>simp at a
   rename_i b
   split at a
   case h_2=>simp at a
   split at a
   case h_2=>simp at a
   simp only[j4]at a;subst a;rw[CW];simp[aa,b]
  case st u' fs=>
   split at a
   case isFalse=>simp at a
   rename_i b
   split at a
   case h_2=>simp at a
   split at a
   case h_2=>simp at a
   simp only[j4]at a;subst a;rw[CW];simp[aa,b]
  all_goals simp at a
theorem Zd{T:dq}{a x:dp}(z:o.op= .store T a x){H0:aj}{K:aR->Prop}(h:oG P T H0 (ρ a) (ρ x) K):
 ∃e,K e/\bB P o ρ base e/\(∀p∈e.al,H0[p.1]?=some p.2)/\(∀p∈e.aL,p.1<H0.length/\p.2≠.hole):=by
 unfold oG at h;obtain⟨hk,ab,h⟩:=h
 split at h
 ·rename_i b aq N
  split at h
  case h_2=>exact h.elim
  rename_i t B
  split at h
  case h_2=>exact h.elim
  rename_i s j hs r;obtain⟨J,h⟩:=h;refine⟨_,h,?_,by simpa using B,by simpa using(hz.1 B).1⟩;intro H w ad ah β f l D al _;have d:H[b]?=some (.box false t):=by simpa using al
  obtain⟨g,_⟩:=D a (by simp[z,gt]);obtain⟨aa,M⟩:=D x (by simp[z,gt]);rw[N]at g;simp only[aB,bO,bS]at g;obtain⟨_,am,Z,L,W,U,g⟩:=g;obtain⟨rfl,rfl⟩:=g (.inl ⟨false,t,d⟩);obtain⟨cs,A,k1,k2,k3,k4⟩:=l.cM b _ d;obtain⟨pre,xs,post,e1,e2,e3,e4⟩:=pY k2 hs U;have m:=zi aa ab;have q:(f x).cells.toList.length=xs.length:=by rw[(oA m).1,(oA e3).1,J]
  have ae:cs.size=pre.length+xs.length+post.length:=by
   have:=congrArg hT e1;simp at this;omega
  have C:=Kt z W rfl (yM hk m) k1 (zZ m) (by omega);have aP:(cs.toList.take Z++(f x).cells.toList++cs.toList.drop (Z+(f x).cells.toList.length))=pre++(f x).cells.toList++post:=by
   rw[e1,q,<-e2];simp
  rw[aP]at C;have aM:cz β H β (H.set b (.box false j)):=pP d (.inl ⟨_,_,_,_,rfl,rfl⟩);have Q:∀y,aJ H y->aJ (H.set b (.box false j)) y:=mF d (fun _ h=>h);have X:∀k,ad k->(w.setRow (β.aq b) (pre++(f x).cells.toList++post).toArray).heap[k]?=w.heap[k]?:=fun k S=>eb w _ k _ (fun O=>k3.1 (O▸S));have V:=ri l d trivial (o':=.box false j) trivial (fun _ h=>h) k1 (new:=(pre++(f x).cells.toList++post).toArray) k3 aM
   ⟨_,A,ed w _ _ _ A _ k1,bu.mono (fun _ x=>x) X aM _ _ (wG r (l.refs b _ d) M) (e4 _ _ _ r m q),k3,by simp,by rw[XZ hs r J];exact k4.2⟩
   (aE.mono Q _ (wG r (l.refs b _ d) M))
  exact⟨_,_,_,β,ad,C,.inr ⟨rfl,rfl⟩,V,by simp[aB,aD,bK,undef],by simp[aE]⟩
 ·rename_i b aA ai i aq N
  split at h
  case h_2=>exact h.elim
  rename_i k aC ay n B;obtain⟨rfl,rfl,ag,hi,h⟩:=h
  split at h
  case h_2=>exact h.elim
  rename_i s j hs r;obtain⟨J,h⟩:=h;refine⟨_,h,?_,by simpa using B,by simpa using(hz.1 B).1⟩;intro H w ad ah β f l D al _;have d:H[b]?=some (.arr k aA ai n):=by simpa using al
  obtain⟨g,_⟩:=D a (by simp[z,gt]);obtain⟨aa,M⟩:=D x (by simp[z,gt]);rw[N]at g;simp only[aB,bO,bS]at g;have I:¬di k n:=fun G=>by rw[G.2]at hi;simp at hi
  obtain⟨_,am,Z,L,W,U,g⟩:=g;obtain⟨rfl,rfl⟩:=g k n d I;rcases l.cM b _ d with hold|⟨cs,A,ax,rest,k1,k2,k3,k4,k5,k6,k7,k8⟩
  ·exact(I hold).elim
  have af:¬ad (β.aq b)/\¬ah (β.aq b):=by
   unfold cJ at k7;rw[if_neg (by simpa using ag)]at k7;exact k7
  obtain⟨u,c,F,ar,au,az,av,aw⟩:=AB k2 hi;obtain⟨pre,xs,post,e1,e2,e3,e4⟩:=pY av hs U;have m:=zi aa ab;have q:(f x).cells.toList.length=xs.length:=by rw[(oA m).1,(oA e3).1,J]
  have ac:cs.toList=(u++pre)++xs++(post++F++rest):=by rw[k3,ar,e1];simp
  have ae:cs.size=(u++pre).length+xs.length+(post++F++rest).length:=by
   have:=congrArg hT ac;simp at this⊢;omega
  have ap:(u++pre).length=i*ai+L:=by simp[au,e2]
  have C:=Kt z W rfl (yM hk m) k1 (zZ m) (by omega);have aP:(cs.toList.take (i*ai+L)++(f x).cells.toList++cs.toList.drop (i*ai+L+(f x).cells.toList.length))=(u++pre)++(f x).cells.toList++(post++F++rest):=by
   rw[ac,q,<-ap,hG (u++pre),List.take_left',List.drop_append,hG]
   ·simp
   ·rfl
  rw[aP]at C;obtain⟨an,c1,c2⟩:=aw j _ (e4 _ _ _ r m q) (by rw[e1];simp[q]);have aM:cz β H β (H.set b (.arr k aA ai (n.set i j))):=pP d (.inr (.inl ⟨_,_,_,_,_,rfl,rfl,by simp⟩));have Q:∀y,aJ H y->aJ (H.set b (.arr k aA ai (n.set i j))) y:=mF d (fun _ h=>h);have ao:¬di k (n.set i j):=fun G=>I ⟨G.1,by have:=G.2;rw[List.set_eq_nil_iff]at this;exact this⟩;have ak:aS (aJ H) (n.set i j):=by
   rw[c7];intro v Y;rcases h2 Y with Y|rfl
   ·exact c7.1 (l.refs b _ d) v Y
   ·exact wG r (c7.1 (l.refs b _ d) _ (h9 hi)) M
  have X:∀E,ad E->(w.setRow (β.aq b) ((u++pre)++(f x).cells.toList++(post++F++rest)).toArray).heap[E]?=w.heap[E]?:=fun E S=>eb w _ E _ (fun O=>af.1 (O▸S));have V:=ri l d I (o':=.arr k aA ai (n.set i j)) ao (fun _ h=>h) k1 (new:=((u++pre)++(f x).cells.toList++(post++F++rest)).toArray) af aM
   (.inr ⟨_,A,an,rest,ed w _ _ _ A _ k1,bM.mono (fun _ x=>x) X aM _ _ _ ak c2,by rw[c1];simp,by
    rw[<-k4,ae];simp[q];omega,by simpa using k5,fun R=>by rw[k6 R];simp,k7,(fun R=>(ag R).elim),k8.2⟩)
   (aS.mono Q _ ak)
  exact⟨_,_,_,β,ad,C,.inr ⟨rfl,rfl⟩,V,by simp[aB,aD,bK,undef],by simp[aE]⟩
 ·exact h.elim
end
section
variable{P:dz}{w:dy}{ad ah:Nat->Prop}{β:Bd}{H:aj}
theorem Ck(P:dz)(T:dq):P.underlying T=(P.info? (P.underlyingId T)).map (fun i:ea=>i.desc):=by
 unfold he hg;cases hi:P.info? T with
 |none=>simp[hi]
 |some i=>
  obtain⟨d,_,_,_,_,_,_,_,_,_⟩:=i;cases d<;>simp[hi]
theorem CC{T u:dq}(h:kindOf P T=.agg u):u=P.underlyingId T/\(∃l,dv P u=some l)/\P.cellsOf T=P.cellsOf u:=by
 unfold kindOf at h
 split at h
 ·split at h
  ·rename_i hc;simp at h;subst h;simp at hc;exact⟨rfl,jP.1 hc.1,hc.2⟩
  ·simp at h
 ·split at h
  ·rename_i hc;simp at h;subst h;simp at hc;exact⟨rfl,jP.1 hc.1,hc.2⟩
  ·simp at h
 ·split at h<;>simp at h
 ·simp at h
theorem vS{T u:dq}{n:Nat}(h:eU P T=some (u,n)):∃fs l,P.underlying T=some (.struct fs)/\fs.size=n/\kindOf P T= .agg u/\dv P u=some l/\l.length=n/\
 ∀(i:Nat)(_hi:i<n),∃f,fs[i]?=some f/\f.offset=(l.take i).sum/\l[i]?=some (P.cellsOf f.type)/\0<P.cellsOf f.type/\(jS P u)[i]?=some f.type:=by
 unfold eU at h
 split at h
 case h_2=>simp at h
 rename_i u' fs hk c;simp at h;obtain⟨rfl,rfl⟩:=h;obtain⟨g,⟨l,a⟩,_⟩:=CC hk;refine⟨fs,l,c,rfl,hk,a,?_⟩;have b:(P.info? u').map (fun i:ea=>i.desc)=some (.struct fs):=by rw[g,<-Ck,c]
 unfold dv at a;rw[b]at a;dsimp only at a
 split at a
 case isFalse=>simp at a
 rename_i hc;simp at a;simp only[db,List.all_eq_true,decide_eq_true_eq,beq_iff_eq]at hc;obtain⟨⟨d,j⟩,e⟩:=hc;subst a;refine⟨by simp,fun i hi=>?_⟩;refine⟨fs[i],by simp[hi],?_,by simp[hi],?_,?_⟩
 ·have:=e (fs[i],i) (by rw[List.mem_iff_getElem?];exact⟨i,by simp[hi]⟩);simpa using this
 ·have:=d (P.cellsOf fs[i].type) (by simp;exact⟨fs[i],by simp,rfl⟩);exact this
 ·unfold jS;rw[b];simp[hi]
theorem wu{T u:dq}{n:Nat}(h:iR P T=some (u,n)):∃e,P.underlying T=some (.array n e)/\kindOf P T=.agg u/\dv P u=some (hB n (P.cellsOf e))/\0<P.cellsOf e:=by
 unfold iR at h
 split at h
 case h_2=>simp at h
 rename_i u' g e hk b;simp at h;obtain⟨rfl,rfl⟩:=h;obtain⟨d,⟨l,a⟩,_⟩:=CC hk;have c:(P.info? u').map (fun i:ea=>i.desc)=some (.array g e):=by rw[d,<-Ck,b]
 have f:=a;unfold dv at a;rw[c]at a;dsimp only at a
 split at a
 case isFalse=>simp at a
 rename_i hc;simp at a hc;exact⟨e,b,hk,by rw[f,a],hc.1⟩
theorem yN{p q:List (dq×Nat)}{a b:Nat}(c:gI P p=some a)(f:gI P q=some b):gI P (p++q)=some (a+b):=by
 induction p generalizing a with
 |nil=>simp[gI]at c;subst c;simpa using f
 |cons x p g=>
  obtain⟨u,i⟩:=x;simp only[gI]at c;cases d:dv P u with
  |none=>simp[d]at c
  |some l=>
   cases e:gI P p with
   |none=>simp[d,e]at c
   |some a'=>
    simp[d,e]at c;obtain⟨hi,rfl⟩:=c;simp only[List.cons_append,gI,d,g e,if_pos hi];congr 1;omega
theorem yS{u:dq}{i:Nat}{l:List Nat}(a:dv P u=some l)(hi:i<l.length):gI P [(u,i)]=some (l.take i).sum:=by
 simp[gI,a,hi]
variable{o:Oper}{ρ:dp->AV}{base:Nat}
theorem kX(aq off n:Nat):(⟨aq,off,none⟩:Addr).add n=⟨aq,off+n,none⟩:=by unfold Addr.add;split<;>simp_all
theorem UO{T:dq}{a:dp}{f:Nat}(v:o.op= .fieldAddr T a f){K:aR->Prop}(h:ou P T (ρ a) f K):
 ∃e,K e/\bB P o ρ base e/\e.al=[]/\e.aL=[]:=by
 unfold ou at h
 split at h
 case h_2=>exact h.elim
 rename_i u n aM;obtain⟨hf,h⟩:=h;obtain⟨fs,l,L,x,hk,G,O,E⟩:=vS aM;obtain⟨fd,g1,g2,g3,g4,g5⟩:=E f hf;have z:=yS G (by omega:f<l.length);have B:∀(w:dy)(d:dp->dl)(aq off:Nat),d a=.pointer (some ⟨aq,off,none⟩)->(dx d o).run P w=.ok (.value (.pointer (some ⟨aq,off+(l.take f).sum,none⟩))) w:=by
  intro w d aq off m;obtain⟨i,hi⟩:∃i,P.info? fd.type=some i:=by
   cases hi:P.info? fd.type with
   |none=>simp[hd,hi]at g4
   |some i=>exact⟨i,rfl⟩
  have J:(sizeOf fd.type).run P w=.ok (P.cellsOf fd.type) w:=by simp[sizeOf,typeInfo,hi,hd]
  simp only[dx,v];refine fp ?_;have I:¬P.cellsOf fd.type=0:=by omega
  simp[Instr.fieldAt,dg L,g1,m,gc,fieldPlace,J,I,kX,g2]
 split at h
 ·rename_i b N m;refine⟨_,h,bB.same fun H w ad ah β d D r _=>?_,rfl,rfl⟩;obtain⟨c,j⟩:=r a (by simp[v,gt]);rw[m]at c j;simp only[aB,bO,bS,aE]at c j;obtain⟨_,aq,off,M,A,y,p⟩:=c;refine⟨_,B w d _ _ A,?_,by simpa[aE]using j⟩;simp only[aB,bO,bS];exact⟨rfl,_,_,_,rfl,yN y z,fun q=>⟨(p q).1,by rw[(p q).2]⟩⟩
 ·rename_i b aA ai i N m;refine⟨_,h,bB.same fun H w ad ah β d D r _=>?_,rfl,rfl⟩;obtain⟨c,j⟩:=r a (by simp[v,gt]);rw[m]at c j;simp only[aB,bO,bS,aE]at c j;obtain⟨_,aq,off,M,A,y,p⟩:=c;refine⟨_,B w d _ _ A,?_,by simpa[aE]using j⟩;simp only[aB,bO,bS];exact⟨rfl,_,_,_,rfl,yN y z,fun k C q x=>⟨(p k C q x).1,by rw[(p k C q x).2];omega⟩⟩
 ·rename_i t m;obtain⟨hs,h⟩:=h
  split at h
  case h_2=>exact h.elim
  rename_i g F;refine⟨_,h,?_,rfl,rfl⟩;refine bB.same fun H w ad ah β d D r _=>?_;obtain⟨c,_⟩:=r a (by simp[v,gt]);rw[m]at c;simp only[aB,aD]at c;obtain⟨aq,off,Q,k1,k2,k3,k4⟩:=c;refine⟨_,B w d _ _ k4,?_,by simp[aE]⟩;obtain⟨pre,xs,post,e1,e2,e3⟩:=zL (path:=[(u,f)]) (s:=g) k1 (by simp[lL,hs,F]) z;simp only[aB,aD];refine⟨aq,off+(l.take f).sum,xs,e3,k2,?_,rfl⟩;intro i hi;have:=k3 (pre.length+i) (by rw[e1];simp;omega);rw[<-e2,i7,this];congr 1;simp only[e1,hG];rw[h3 (by omega)];simp only[i5];rw[h4 hi]
 ·exact h.elim
end
section
variable{P:dz}{w:dy}{ad ah:Nat->Prop}{β:Bd}{H:aj}
variable{o:Oper}{ρ:dp->AV}{base:Nat}
theorem tS{aq off:Nat}{a pre xs post:List dl}(h:ir w aq off a)(e:a=pre++xs++post):ir w aq (off+pre.length) xs:=by
 intro i hi;have:=h (pre.length+i) (by rw[e];simp;omega);rw[i7,this];congr 1;simp only[e,hG];rw[h3 (by omega)];simp only[i5];rw[h4 hi]
structure ry(P:dz)(T:dq)(sz:Nat)(e:dq)(i:ea):Prop where
 gR:P.underlying T=some (.slice e)
 info:P.info? e=some i
 size:i.size=sz
 pos:0<sz
 bytes:i.bytes<32768
 aMS:0<i.bytes
 qS:eE P T=e
theorem kS{T:dq}{sz:Nat}(h:cG P T=some sz):∃e i,ry P T sz e i:=by
 unfold cG at h
 split at h
 case h_2=>simp at h
 rename_i e a
 split at h
 case h_2=>simp at h
 rename_i i hi
 split at h
 case isFalse=>simp at h
 rename_i hc;simp at h;subst h;exact⟨e,i,a,hi,rfl,hc.2.1,hc.1,hc.2.2,by simp[eE,a]⟩
theorem ry.run{T:dq}{sz:Nat}{e:dq}{i:ea}(h:ry P T sz e i)(w:dy):(sizeOf e).run P w=.ok sz w:=by
 simp[sizeOf,typeInfo,h.info,h.size]
theorem UN{T:dq}{x S:dp}(B:o.op= .indexAddr T x S){H0:aj}{K:aR->Prop}(h:ot P T H0 (ρ x) (ρ S) K):
 ∃e,K e/\bB P o ρ base e/\(∀p∈e.al,H0[p.1]?=some p.2)/\e.aL=[]:=by
 unfold ot at h
 split at h
 case h_2=>exact h.elim
 rename_i ar n am;obtain⟨C,h⟩:=h;have E:x∈o.op.operands:=by simp[B,gt]
 have an:S∈o.op.operands:=by simp[B,gt]
 have D:∀{H:aj}{w:dy}{ad:Nat->Prop}{β:Bd}{z:dp->dl},(∀y∈o.op.operands,aB P w ad β H (ρ y) (z y)/\aE (aJ H) (ρ y))->z S=.int ar n:=by
  intro H w ad β z f;have:=(f S an).1;rw[am]at this;simpa[aB,aD]using this
 split at h
 ·
  rename_i full d hx;obtain⟨j,r,h⟩:=h;obtain⟨e,ag,A⟩:=kS r;refine⟨_,h,bB.same fun H w ad ah β z O f _=>?_,by simp,rfl⟩;obtain⟨a,_⟩:=f x E;rw[hx]at a;simp only[aB,aD]at a;obtain⟨aq,off,cap,ai,V,k1,k2,k3,k4,k5,sp,aa,k6⟩:=a;obtain rfl:sp=none:=aa.resolve_right (by omega);have Z:Row P w ad ⟨id,id⟩ [] ai (d.map .p) V:=mE.2 k1;obtain⟨pre,c,post,ab,ac,ae,U,_⟩:=AB Z (i:=n.toNat) (by simpa using j);have M:aU P w ad d[n.toNat] c:=by
   have:(d.map AV.p)[n.toNat]'(by simpa using j)=.p d[n.toNat]:=by simp
   rw[this]at U;simpa only[bu]using U
  have W:bG P (aI d[n.toNat])=ai:=by rw[<-(pO M).1,ae]
  refine⟨.pointer (some ⟨aq,off+n.toNat*ai,none⟩),?_,?_,by simp[aE]⟩
  ·simp only[dx,B];refine fp ?_;have q:n<(d.length:Int):=by omega
   simp[gg,D f,asIntOf,dg A.gR,k6,C,q,A.run,W,kX]
  ·simp only[aB,aD];refine⟨aq,off+n.toNat*ai,c,M,k2 (by intro F;rw[F]at j;simp at j),?_,rfl⟩;rw[<-ac];exact tS k3 ab
 ·
  rename_i d hx;obtain⟨j,r,h⟩:=h;obtain⟨e,ag,A⟩:=kS r;refine⟨_,h,bB.same fun H w ad ah β z O f _=>?_,by simp,rfl⟩;obtain⟨a,_⟩:=f x E;rw[hx]at a;simp only[aB,aD]at a;rcases a with⟨rfl,_⟩|⟨aq,off,cap,ai,V,k1,k2,k3,k5,sp,aa,k6⟩
  ·simp at j
  obtain rfl:sp=none:=aa.resolve_right (by omega);have Z:Row P w ad ⟨id,id⟩ [] ai (d.map .p) V:=mE.2 k1;obtain⟨pre,c,post,ab,ac,ae,U,_⟩:=AB Z (i:=n.toNat) (by simpa using j);have M:aU P w ad d[n.toNat] c:=by
   have:(d.map AV.p)[n.toNat]'(by simpa using j)=.p d[n.toNat]:=by simp
   rw[this]at U;simpa only[bu]using U
  have W:bG P (aI d[n.toNat])=ai:=by rw[<-(pO M).1,ae]
  refine⟨.pointer (some ⟨aq,off+n.toNat*ai,none⟩),?_,?_,by simp[aE]⟩
  ·simp only[dx,B];refine fp ?_;have q:n<(d.length:Int):=by omega
   simp[gg,D f,asIntOf,dg A.gR,k6,C,q,A.run,W,kX]
  ·simp only[aB,aD];refine⟨aq,off+n.toNat*ai,c,M,k2 (by intro F;rw[F]at j;simp at j),?_,rfl⟩;rw[<-ac];exact tS k3 ab
 ·
  rename_i b aA ai off len hx;obtain⟨r,j,h⟩:=h;obtain⟨e,ag,A⟩:=kS r
  split at h
  case h_2=>exact h.elim
  rename_i k aF ax d ap;obtain⟨rfl,rfl,ao,h⟩:=h;refine⟨_,h,bB.same fun H w ad ah β z O f al=>?_,by simpa using ap,rfl⟩;obtain⟨a,l⟩:=f x E;rw[hx]at a l;simp only[aB,bO,bS,aE]at a l;have af:H[b]?=some (.arr k aA ai d):=by simpa using al
  obtain⟨g1,g2,g3⟩:=a.2 k d af;have g3:=g3 ao;refine⟨.pointer (some ⟨β.aq b,off*ai+n.toNat*ai,none⟩),?_,?_,by simpa[aE]using l⟩
  ·simp only[dx,B];refine fp ?_;have q:n<(len:Int):=by omega
   simp[gg,D f,asIntOf,dg A.gR,g3,C,q,A.run,kX]
  ·simp only[aB,bO,bS];refine⟨rfl,_,_,0,rfl,rfl,fun az aw v ay=>?_⟩;unfold fI at v;rw[af]at v;cases v;exact⟨rfl,by rw[i3];simp⟩
 ·
  rename_i b av hx
  split at h
  case h_2=>exact h.elim
  rename_i u m G;obtain⟨j,h⟩:=h;obtain⟨e,R,hk,I,N⟩:=wu G;refine⟨_,h,bB.same fun H w ad ah β z O f _=>?_,by simp,rfl⟩;obtain⟨a,l⟩:=f x E;rw[hx]at a l;simp only[aB,bO,bS,aE]at a l;obtain⟨_,aq,off,au,Y,X,v⟩:=a;have L:=yS I (i:=n.toNat) (by simpa using j);have Q:((hB m (P.cellsOf e)).take n.toNat).sum=n.toNat*P.cellsOf e:=by rw[hE,i1 (by omega),hD]
  have r:(sizeOf e).run P w=.ok (P.cellsOf e) w:=by
   cases hi:P.info? e with
   |none=>simp[hd,hi]at N
   |some i=>simp[sizeOf,typeInfo,hi,hd]
  refine⟨.pointer (some ⟨aq,off+n.toNat*P.cellsOf e,none⟩),?_,?_,by simpa[aE]using l⟩
  ·simp only[dx,B];refine fp ?_;have q:n<(m:Int):=by omega
   simp[gg,D f,asIntOf,dg R,Y,gc,C,q,r,kX]
  ·simp only[aB,bO,bS];exact⟨rfl,_,_,_,rfl,yN X L,fun J=>⟨(v J).1,by rw[(v J).2,Q]⟩⟩
 ·rename_i b aA ai i av hx
  split at h
  case h_2=>exact h.elim
  rename_i u m G;obtain⟨j,h⟩:=h;obtain⟨e,R,hk,I,N⟩:=wu G;refine⟨_,h,bB.same fun H w ad ah β z O f _=>?_,by simp,rfl⟩;obtain⟨a,l⟩:=f x E;rw[hx]at a l;simp only[aB,bO,bS,aE]at a l;obtain⟨_,aq,off,au,Y,X,v⟩:=a;have L:=yS I (i:=n.toNat) (by simpa using j);have Q:((hB m (P.cellsOf e)).take n.toNat).sum=n.toNat*P.cellsOf e:=by rw[hE,i1 (by omega),hD]
  have r:(sizeOf e).run P w=.ok (P.cellsOf e) w:=by
   cases hi:P.info? e with
   |none=>simp[hd,hi]at N
   |some i=>simp[sizeOf,typeInfo,hi,hd]
  refine⟨.pointer (some ⟨aq,off+n.toNat*P.cellsOf e,none⟩),?_,?_,by simpa[aE]using l⟩
  ·simp only[dx,B];refine fp ?_;have q:n<(m:Int):=by omega
   simp[gg,D f,asIntOf,dg R,Y,gc,C,q,r,kX]
  ·simp only[aB,bO,bS];exact⟨rfl,_,_,_,rfl,yN X L,fun k d J F=>⟨(v k d J F).1,by rw[(v k d J F).2,Q];omega⟩⟩
 ·rename_i t hx
  split at h
  case h_2=>exact h.elim
  rename_i u m G;obtain⟨hs,j,h⟩:=h
  split at h
  case h_2=>exact h.elim
  rename_i g ak;obtain⟨e,R,hk,I,N⟩:=wu G;refine⟨_,h,bB.same fun H w ad ah β z O f _=>?_,by simp,rfl⟩;obtain⟨a,_⟩:=f x E;rw[hx]at a;simp only[aB,aD]at a;obtain⟨aq,off,aC,k1,k2,k3,k4⟩:=a;have L:=yS I (i:=n.toNat) (by simpa using j);have Q:((hB m (P.cellsOf e)).take n.toNat).sum=n.toNat*P.cellsOf e:=by rw[hE,i1 (by omega),hD]
  have r:(sizeOf e).run P w=.ok (P.cellsOf e) w:=by
   cases hi:P.info? e with
   |none=>simp[hd,hi]at N
   |some i=>simp[sizeOf,typeInfo,hi,hd]
  obtain⟨pre,xs,post,e1,e2,e3⟩:=zL (path:=[(u,n.toNat)]) (s:=g) k1 (by simp[lL,hs,ak]) L;refine⟨.pointer (some ⟨aq,off+n.toNat*P.cellsOf e,none⟩),?_,?_,by simp[aE]⟩
  ·simp only[dx,B];refine fp ?_;have q:n<(m:Int):=by omega
   simp[gg,D f,asIntOf,dg R,k4,gc,C,q,r,kX]
  ·simp only[aB,aD];refine⟨aq,_,xs,e3,k2,?_,rfl⟩;rw[<-Q,<-e2];exact tS k3 e1
 ·exact h.elim
theorem aLp{bs:ByteArray}{s:List Nat}(h:s=bs.data.toList.map (·.toNat)){i:Nat}(hi:i<s.length):∃b:UInt8,bs[i]?=some b/\b.toNat=s[i]:=by
 subst h;have a:i<bs.size:=by simpa using hi
 refine⟨bs[i],by simp[a],?_⟩;simp only[List.getElem_map,cv];rfl
theorem VN{T:dq}{x f:dp}{s:List Nat}{k:en}{n:Int}(e:o.op= .index T x f)(hx:ρ x= .p (.str s))(hi:ρ f= .p (.int k n))(d:ja P T=true)(i:0<=n)(g:n.toNat<s.length):
 bB P o ρ base {v:=.p (.int .u8 (s[n.toNat]'g))}:=by
 refine bB.same fun H w ad ah β m l h _=>?_;have a:=(h x (by simp[e,gt])).1;have c:=(h f (by simp[e,gt])).1;rw[hx]at a;rw[hi]at c;simp only[aB,aD]at a c;obtain⟨bs,e1,e2⟩:=a;obtain⟨b,g1,g2⟩:=aLp e2 g;have j:P.underlying T=some .string:=by
  unfold ja at d
  split at d
  ·assumption
  ·simp at d
 refine⟨.int .u8 b.toNat,?_,by simp[aB,aD,g2],by simp[aE]⟩;simp only[dx,e,e1,c];refine fp ?_;simp[Instr.index,asIntOf,dg j,i,g1]
theorem Wa{S D:dq}{x:dp}{k k0:en}{n:Int}(b:o.op= .convert S D x)(e:∃d,P.underlying S=some d)(c:P.underlying D=some (.int k))(hx:ρ x= .p (.int k0 n)):
 bB P o ρ base {v:=.p (.int k (k.wrap n))}:=by
 refine bB.same fun H w ad ah β i h g _=>?_;have a:=(g x (by simp[b,gt])).1;rw[hx]at a;simp only[aB,aD]at a;obtain⟨d,f⟩:=e;refine⟨.int k (k.wrap n),?_,by simp[aB,aD],by simp[aE]⟩;simp only[dx,b,a];refine fp ?_;simp[convert,dg f,dg c,Conv.intToInt]
theorem V9{S D:dq}{x:dp}{s:List Nat}(b:o.op= .convert S D x)(e:∃d,P.underlying S=some d)(c:P.underlying D=some .string)(hx:ρ x= .p (.str s)):
 bB P o ρ base {v:=.p (.str s)}:=by
 refine bB.same fun H w ad ah β i h g _=>?_;have a:=(g x (by simp[b,gt])).1;rw[hx]at a;simp only[aB,aD]at a;obtain⟨bs,e1,e2⟩:=a;obtain⟨d,f⟩:=e;refine⟨.string bs,?_,by simp only[aB,aD];exact⟨bs,rfl,e2⟩,by simp[aE]⟩;simp only[dx,b,e1];refine fp ?_;simp only[convert,hl,dg f,dg c,hj];cases d<;>simp
theorem W3{b aA ai off len:Nat}{k:AK}{d:List AV}{v:dl}(h:aB P w ad β H (.sl b aA ai off len) v)(j:H[b]?=some (.arr k aA ai d)):∃a c,v=.slice a len c:=by
 simp only[aB,bO,bS]at h;obtain⟨f,g,i⟩:=h.2 k d j
 by_cases e:di k d
 ·rw[g e];have:len=0:=by rw[e.2]at f;simp at f;omega
  subst this;exact⟨_,_,rfl⟩
 ·exact⟨_,_,i e⟩
theorem CK:∀{b:List (PV×PV)}{a:List MapEntry},cK P w ad b a->a.length=b.length
 |[],a,h=>by simp only[cK]at h;subst h;rfl
 |(k,v)::r,a,h=>by
  simp only[cK]at h;obtain⟨e,rest,rfl,d,f,c⟩:=h;simp[CK c]
theorem aKb{c:Call}{x:dp}{n:Nat}{al:List (Nat×Obj)}{H0:aj}(G:o.op= .call c)(hc:c.callee= .builtin .len)(E:c.args.toList=[x])(i:lenOf H0 (ρ x)=some (n,al))(d:iC P (c.argTypes.getD 0 0) (ρ x)=true)(O:0<c.argTypes.size):
 bB P o ρ base {v:=.p (.int .i64 n),al}/\(∀p∈al,H0[p.1]?=some p.2):=by
 have u:x∈o.op.operands:=by
  rw[G];simp only[gt,Call.operands,hc];simp;rw[<-Array.mem_toList_iff,E];simp
 have J:c.args=#[x]:=by apply b5;simpa using E
 have q:c.argTypes[0]?=some (c.argTypes.getD 0 0):=by simp[Array.getD,O]
 have t:∀{H:aj}{w:dy}{ad:Nat->Prop}{β:Bd}{m:dp->dl},((e9 c.argTypes o.type #[m x]).run P w= .ok (goInt n) w)->
  ∃D,(dx m o).run P w=.ok (.value D) w/\aB P w ad β H (.p (.int .i64 n)) D/\aE (aJ H) (.p (.int .i64 n)):=by
  intro H w ad β m L;refine⟨goInt n,?_,by simp[aB,aD,goInt],by simp[aE]⟩;simp only[dx,G,resolve,hc,J];simp[invoke,builtin,L]
 have N:∀T:dq,ja P T=true->P.underlying T=some .string:=by
  intro T h;unfold ja at h
  split at h
  ·assumption
  ·simp at h
 generalize R:c.argTypes.getD 0 0=T at*;unfold lenOf at i
 split at i
 ·rename_i s hx;simp at i;obtain⟨rfl,rfl⟩:=i;rw[hx]at d;simp only[iC]at d;refine⟨bB.same fun H w ad ah β m y j _=>t ?_,by simp⟩;have g:=(j x u).1;rw[hx]at g;simp only[aB,aD]at g;obtain⟨bs,e1,e2⟩:=g;have hs:s.length=bs.size:=by rw[e2];simp
  simp[e9,q,dg (N _ d),e1,hs]
 ·rename_i hx;simp at i;obtain⟨rfl,rfl⟩:=i;rw[hx]at d;refine⟨bB.same fun H w ad ah β m y j _=>t ?_,by simp⟩;have g:=(j x u).1;rw[hx]at g;simp only[aB,aD]at g;simp only[iC]at d
  split at d
  ·rename_i e l;simp[e9,q,dg l,g]
  ·simp at d
 ·rename_i hx;simp at i;obtain⟨rfl,rfl⟩:=i;rw[hx]at d;refine⟨bB.same fun H w ad ah β m y j _=>t ?_,by simp⟩;have g:=(j x u).1;rw[hx]at g;simp only[aB,aD]at g;simp only[iC]at d
  split at d
  ·rename_i k e l;simp[e9,q,dg l,g]
  ·simp at d
 ·rename_i f z hx;simp at i;obtain⟨rfl,rfl⟩:=i;rw[hx]at d;refine⟨bB.same fun H w ad ah β m y j _=>t ?_,by simp⟩;have g:=(j x u).1;rw[hx]at g;simp only[aB,aD]at g;obtain⟨aq,off,cap,ai,I,k1,k2,k3,k4,k5,sp,M,k6⟩:=g;simp only[iC]at d
  split at d
  ·rename_i e l;simp[e9,q,dg l,k6]
  ·simp at d
 ·rename_i z hx;simp at i;obtain⟨rfl,rfl⟩:=i;rw[hx]at d;refine⟨bB.same fun H w ad ah β m y j _=>t ?_,by simp⟩;have g:=(j x u).1;rw[hx]at g;simp only[aB,aD]at g;simp only[iC]at d
  split at d
  ·rename_i e l;rcases g with⟨rfl,k6⟩|⟨aq,off,cap,ai,I,k1,k2,k3,k5,sp,M,k6⟩
   ·simp[e9,q,dg l,k6]
   ·simp[e9,q,dg l,k6]
  ·simp at d
 ·rename_i z hx;simp at i;obtain⟨rfl,rfl⟩:=i;rw[hx]at d;refine⟨bB.same fun H w ad ah β m y j _=>t ?_,by simp⟩;have g:=(j x u).1;rw[hx]at g;simp only[aB,aD]at g;obtain⟨r,A,clock,k1,k2,k3,k4⟩:=g;simp only[iC]at d
  split at d
  ·rename_i k e l;have:=CK k3;have B:(getObj r).run P w=.ok (.map A clock) w:=by simp[getObj,ho,k2]
   simp at this;simp[e9,q,dg l,k4,B,this]
  ·simp at d
 ·rename_i b aA ai off len hx
  split at i
  case h_2=>simp at i
  rename_i k S Q z C
  split at i
  case isFalse=>simp at i
  rename_i K;obtain⟨rfl,rfl⟩:=K;simp at i;obtain⟨rfl,rfl⟩:=i;rw[hx]at d;refine⟨bB.same fun H w ad ah β m y j al=>t ?_,by simpa using C⟩;have g:=(j x u).1;rw[hx]at g;obtain⟨a,cp,e1⟩:=W3 g (by simpa using al);simp only[iC]at d
  split at d
  ·rename_i e l;simp[e9,q,dg l,e1]
  ·simp at d
 ·rename_i b hx
  split at i
  case h_2=>simp at i
  rename_i fz z C;simp at i;obtain⟨rfl,rfl⟩:=i;rw[hx]at d;refine⟨bB.same fun H w ad ah β m y j al=>t ?_,by simpa using C⟩;have g:=(j x u).1;rw[hx]at g;simp only[aB,bO,bS]at g;have F:H[b]?=some (.map fz z):=by simpa using al
  obtain⟨A,clock,k2,k3,_⟩:=y.cM b _ F;have e1:=g.2.1 ⟨fz,z,F⟩;simp only[iC]at d
  split at d
  ·rename_i k e l;have:=CK k3;have B:(getObj (β.aq b)).run P w=.ok (.map A clock) w:=by simp[getObj,ho,k2]
   simp at this;simp[e9,q,dg l,e1,B,this]
  ·simp at d
 ·simp at i
end
section
variable{P:dz}{w:dy}{ad ah:Nat->Prop}{β:Bd}{H:aj}
variable{o:Oper}{ρ:dp->AV}{base:Nat}
theorem Mc:∀(a:List dl)(off j:Nat)(cells:Array dl),off+j+a.length<=cells.size->
 ((a.zipIdx j).foldl (fun cs(p:dl×Nat)=>cs.setIfInBounds (off+p.2) p.1) cells).toList=cells.toList.take (off+j)++a++cells.toList.drop (off+j+a.length)
 |[],off,j,cells,_=>by simp
 |x::a,off,j,cells,h=>by
  simp only[List.zipIdx_cons,List.foldl_cons];rw[Mc a off (j+1) _ (by simp at h⊢;omega)];simp only[Array.toList_setIfInBounds,List.length_cons];have d:off+j<cells.toList.length:=by simp at h⊢;omega
  rw[show off+(j+1)=off+j+1 by omega];have b:(cells.toList.set (off+j) x).take (off+j+1)=cells.toList.take (off+j)++[x]:=by
   rw[List.take_succ_eq_append_getElem (by simpa using d)];rw[List.take_set_of_le (iz _)];simp
  have c:(cells.toList.set (off+j) x).drop (off+j+1+a.length)=cells.toList.drop (off+j+(a.length+1)):=by
   rw[List.drop_set_of_lt (by omega)];congr 1;omega
  rw[b,c];simp
theorem U6{a c post b:List dl}(h:b.length=c.length):((a++c++post).take a.length++b++(a++c++post).drop (a.length+b.length))=a++b++post:=by
 rw[h];simp
theorem CH{l:List Nat}{place:Nat->Option (Nat×Nat)}(s:∀i n,l[i]?=some n->place i=some ((l.take i).sum,n)):
 ∀{f:List (Nat×AV)}{j:List (Nat×dl)}{fs:List AV}{e:List (List dl)}{cells:Array dl},j.map j7=f.map j7->(∀i:Nat,aB P w ad β H (((f[i]?).map j6).getD (.p .undef)) (((j[i]?).map j6).getD undef))->
  mA P l f->bM P w ad β H l fs e->cells.toList=e.flatten->
  ∃g m,gj place cells j=some g/\bM P w ad β H l (iY fs f) m/\g.toList=m.flatten
 |[],[],fs,e,cells,_,_,_,h,hc=>⟨cells,e,rfl,h,hc⟩
 |[],_::_,_,_,_,b,_,_,_,_=>by simp at b
 |_::_,[],_,_,_,b,_,_,_,_=>by simp at b
 |(i,a)::f,(d,v)::j,fs,e,cells,b,t,o,h,hc=>by
  simp only[hQ,List.cons.injEq]at b;obtain⟨rfl,b⟩:=b;simp only[mA]at o;obtain⟨⟨n,q,hs,B⟩,o⟩:=o;have G:aB P w ad β H a v:=by simpa using t 0
  have y:=fun k=>t (k+1);simp only[h6]at y;have L:=yP h;have K:d<l.length:=(hz.1 q).1;have C:d<fs.length:=by omega
  obtain⟨pre,c,post,e1,e2,e3,e4,e5,A⟩:=uq h (hK C);have J:c.length=n:=by rw[q]at e4;simpa using e4.symm
  have u:=zi G B;have x:v.cells.toList.length=n:=by rw[(oA u).1,hs]
  obtain⟨m,k1,k2⟩:=A a _ u (by omega);have F:cells.size=pre.length+c.length+post.length:=by
   have:=congrArg hT (hc.trans e1);simp at this;omega
  have I:v.cells.size=n:=by simpa using x
  obtain⟨oL,r⟩:∃oL,(v.cells.zipIdx.foldl (fun cs(p:dl×Nat)=>cs.setIfInBounds ((l.take d).sum+p.2) p.1) cells)=oL:=⟨_,rfl⟩
  have D:oL.toList=m.flatten:=by
   rw[<-r,k1];have:=Mc v.cells.toList (l.take d).sum 0 cells (by rw[<-e2];simp at x⊢;omega);rw[<-c6];simp only[Array.toList_zipIdx];rw[this,hc,e1,i4,<-e2];exact U6 (by omega)
  obtain⟨g,z,g1,g2,g3⟩:=CH s b y o k2 D;refine⟨g,z,?_,by simpa only[iY]using g2,g3⟩;have E:¬(v.cells.size≠n\/(l.take d).sum+v.cells.size>cells.size):=by
   rw[I,F,<-e2];omega
  simp only[gj,s d n q];simp only[Bool.or_eq_true,decide_eq_true_eq,E,if_false];simp only[<-r]at g1;exact g1
end
section
variable{P:dz}{w:dy}{ad ah:Nat->Prop}{β:Bd}{H:aj}
variable{o:Oper}{ρ:dp->AV}{base:Nat}
theorem Jb{α γ:Type}(f:α->Sem γ)(g:α->γ)(w:dy):∀l:List α,(∀a∈l,(f a).run P w=.ok (g a) w)->(l.mapM f).run P w=.ok (l.map g) w
 |[],_=>by simp
 |a::l,h=>by
  simp only[ik,hl,h a (by simp),hj,Jb f g w l (fun b c=>h b (by simp[c])),hQ];rfl
theorem UA{α γ:Type}(f:α->Sem γ)(g:α->γ)(w:dy)(a:Array α)(h:∀x∈a.toList,(f x).run P w=.ok (g x) w):(a.mapM f).run P w=.ok (a.toList.map g).toArray w:=by
 rw[ck,hn,Jb f g w _ h];rfl
theorem K5{ρc:dp->dl}{parts:Array (Nat×dp)}(h:∀p∈parts.toList,aB P w ad β H (ρ p.2) (ρc p.2)):
 ((parts.map fun(i,x)=>(i,ρc x)).toList).map j7=(parts.toList.map fun(i,x)=>(i,ρ x)).map j7/\
 ∀i:Nat,aB P w ad β H ((((parts.toList.map fun(i,x)=>(i,ρ x))[i]?).map j6).getD (.p .undef)) ((((parts.map fun(i,x)=>(i,ρc x)).toList[i]?).map j6).getD undef):=by
 refine⟨by simp[Function.comp_def],fun i=>?_⟩;simp only[c9,h8];cases a:parts.toList[i]? with
 |none=>simp[aB,aD]
 |some p=>simpa using h p (hS a)
theorem C7{S:Nat×Nat->Prop}:∀{b:List (Nat×AV)}{fs:List AV},aS S fs->(∀p∈b,aE S p.2)->aS S (iY fs b)
 |[],fs,h,_=>h
 |(i,v)::r,fs,h,a=>by
  simp only[iY];refine C7 ?_ (fun p c=>a p (by simp[c]));rw[c7]at h⊢;intro x hx;rcases h2 hx with hx|rfl
  ·exact h x hx
  ·exact a (i,x) (by simp)
theorem K6{c:Array (Nat×dp)}{p:Nat×dp}(a:p∈c.toList):p.2∈((c.toList.map (·.2)).toArray:Array dp):=by
 simp;exact⟨p.1,by simpa using a⟩
theorem YA{T u:dq}{z:PV}{l:List Nat}{c:Array (Nat×dp)}(y:o.op= .build T c)(hk:kindOf P T= .agg u)(U:b9 P T=some z)(s:dv P u=some l)(hs:aI z= .agg u)
 (O:mA P l (c.toList.map fun(i,x)=>(i,ρ x))):bB P o ρ base {v:=iK u (iY ((bW z).map .p) (c.toList.map fun(i,x)=>(i,ρ x)))}:=by
 obtain⟨i,ac,z1,z2,z3,z4⟩:=rk U;refine bB.same fun H w ad ah β m ai V _=>?_;have G:∀p∈c.toList,aB P w ad β H (ρ p.2) (m p.2)/\aE (aJ H) (ρ p.2):=fun p g=>V p.2 (by rw[y];exact K6 g);obtain⟨X,Y⟩:=K5 (ρ:=ρ) (ρc:=m) (parts:=c) (fun p g=>(G p g).1);have I:=z3 w ad;obtain⟨fs,rfl⟩:∃fs,z=.st u fs:=by cases z<;>simp[aI]at hs;subst hs;exact⟨_,rfl⟩
 simp only[aU]at I;obtain⟨W,ae,q1,Z,aa⟩:=I;rw[s]at q1;cases q1
 have E:∀A:Nat->Option (Nat×Nat),(∀i n,l[i]?=some n->A i=some ((l.take i).sum,n))->
  (∀cells,gj A ac.cells (c.map fun(i,x)=>(i,m x)).toList=some cells->(dx m o).run P w=.ok (.value (.agg cells)) w)->
  ∃C,(dx m o).run P w=.ok (.value C) w/\aB P w ad β H (iK u (iY ((bW (.st u fs)).map .p) (c.toList.map fun(i,x)=>(i,ρ x)))) C/\
   aE (aJ H) (iK u (iY ((bW (.st u fs)).map .p) (c.toList.map fun(i,x)=>(i,ρ x)))):=by
  intro A Q S;obtain⟨L,M,g1,g2,g3⟩:=CH Q X Y O (oy.2 Z) aa;refine⟨.agg L,S _ g1,?_,Cm (C7 (ju _ _) ?_)⟩
  ·rw[Zn];simp only[aB];exact⟨l,M,s,g2,by rw[<-g3]⟩
  ·intro p g;simp only[ix]at g;obtain⟨q,hq,rfl⟩:=g;exact(G q hq).2
 have k:=hk;unfold kindOf at k
 split at k
 ·rename_i a d;have aM:eU P T=some (u,a.size):=by unfold eU;rw[hk,d]
  obtain⟨af,W,s1,s2,B,t,ab,J⟩:=vS aM;rw[d]at s1;cases s1;rw[s]at t;cases t;have R:(a.mapM fun f=>(do pure (f.offset,<-sizeOf f.type):Sem (Nat×Nat))).run P w=.ok (a.toList.map fun f:eP=>(f.offset,P.cellsOf f.type)).toArray w:=by
   refine UA _ _ w _ (fun f hf=>?_);obtain⟨j,r,rfl⟩:=List.mem_iff_getElem.1 hf;obtain⟨D,g1,g2,g3,g4,g5⟩:=J j (by simpa using r);have:a[j]'(by simpa using r)=D:=by
    have F:a[j]?=some (a[j]'(by simpa using r)):=Array.getElem?_eq_getElem (by simpa using r);rw[g1]at F;exact(j5 F).symm
   simp only[cv,this];simp[K g4]
  refine E (fun i=>(a.toList.map fun f:eP=>(f.offset,P.cellsOf f.type)).toArray[i]?) ?_ (fun cells hc=>?_)
  ·intro i n b;have hi:i<a.size:=by rw[<-ab];exact(hz.1 b).1
   obtain⟨D,g1,g2,g3,g4,g5⟩:=J i hi;rw[b]at g3;simp only[List.getElem?_toArray,h8,cb,g1];simp[g2,j5 g3]
  ·simp only[dx,y];refine fp ?_;simp only[gm,hl,ua z1 z2,hj,dg d,R,hc,hm]
 ·rename_i n e d;have N:iR P T=some (u,n):=by unfold iR;rw[hk,d]
  obtain⟨e',s1,s2,B,t⟩:=wu N;rw[d]at s1;cases s1;rw[s]at B;cases B;refine E (fun i=>some (i*P.cellsOf e,P.cellsOf e)) ?_ (fun cells hc=>?_)
  ·intro i aj b;rw[hL]at b
   split at b
   ·rename_i ag;simp at b;subst b;rw[hE,i1 (by omega),hD]
   ·simp at b
  ·simp only[dx,y];refine fp ?_;simp only[gm,hl,ua z1 z2,hj,dg d,K t,hc,hm]
 ·split at k<;>simp at k
 ·simp at k
where
 K {P:dz} {w:dy} {T:dq} (h:0<P.cellsOf T):(sizeOf T).run P w=.ok (P.cellsOf T) w:=by
  cases hi:P.info? T with
  |none=>simp[hd,hi]at h
  |some i=>simp[sizeOf,typeInfo,hi,hd]
theorem Cr(a:Array dl)(n:Nat)(_h:0<a.size):((cd (n*a.size)).map (a[·% a.size]!)).toList=(hB n a.toList).flatten:=by
 simp only[c9,Array.toList_range]
 induction n with
 |zero=>simp
 |succ n c=>
  rw[Nat.succ_mul,List.range_add,List.map_append,c,List.replicate_succ',hX];congr 1;simp only[List.map_map,hO,ih,hN];refine List.ext_getElem (by simp) (fun i b d=>?_);simp at b;simp[Nat.mul_add_mod_self_right,Nat.mod_eq_of_lt b,b,getElem!_pos]
theorem yO{z:PV}{a:List dl}(h:aU P w ad z a):∀n:Nat,Row P w ad β H a.length (hB n (.p z)) (hB n a)
 |0=>iN.2 rfl
 |n+1=>by
  rw[h7,h7,rA];exact⟨a,_,rfl,by simpa only[bu]using h,rfl,yO h n⟩
theorem Cy(d:bV P w ad β H ah){b:Nat}(c:H[b]?=some .hole){cells:Array dl}{T:dq}{k:AK}{ai cap:Nat}{a:List AV}{e:List (List dl)}{rest:List dl}(g:k≠ .frozen)(n:¬di k a)
 (o:Row P w ad β H ai a e)(i:aS (aJ H) a)(hc:cells.toList=e.flatten++rest)(p:cells.size=cap*ai)(m:a.length<=cap)(l:k=.exact->cap=a.length)(q:k=.bytes->T=Gl.u8):
 bZ P ah ad w β H ad {w with heap:=w.heap.push (.cells cells T)} (β.at b w.heap.size cap) (H.set b (.arr k 0 ai a))/\
 aB P {w with heap:=w.heap.push (.cells cells T)} ad (β.at b w.heap.size cap) (H.set b (.arr k 0 ai a)) (.sl b 0 ai 0 a.length) (.slice (some ⟨w.heap.size,0,none⟩) a.length cap):=by
 have aM:=zx (β:=β) c (.arr k 0 ai a) w.heap.size cap;have al:∀y,aJ H y->aJ (H.set b (.arr k 0 ai a)) y:=mF c (fun _ h=>h.elim);have j:=(hz.1 c).1;refine⟨uc (cap:=cap) d c (ob:=.cells cells T)
  (.inr ⟨cells,T,e,rest,by simp[Bd.at],bM.mono (fun _ x=>x) (fun k hk=>v8 _ _ (d.bQ k hk)) aM _ _ _ i o,hc,by simp[Bd.at,p],by simpa[Bd.at]using m,by simpa[Bd.at]using l,by
   unfold cJ;rw[if_neg (by simpa using g)];simp only[Bd.at,if_true];exact⟨fun h=>i0 _ (d.bQ _ h),fun h=>i0 _ (d.eC _ h)⟩,(fun h=>(g h).elim),q⟩) (aS.mono al _ i),?_⟩
 simp only[aB,bO,bS];refine⟨rfl,fun s r f=>?_⟩;unfold fI at f;rw[hA j]at f;cases f;exact⟨by omega,fun h=>(n h).elim,fun _=>by simp[Bd.at]⟩
theorem UD{T:dq}{n sz:Nat}{z:PV}{a:Array (Nat×dp)}(C:o.op= .buildSlice T n a)(b:cG P T=some sz)(W:b9 P (eE P T)=some z)(hs:bG P (aI z)=sz)(ac:n*sz<=1000000)
 (O:mA P (hB n sz) (a.toList.map fun(i,x)=>(i,ρ x))):
 bB P o ρ base {v:=.sl base 0 sz 0 n,aP:=[.arr .exact 0 sz (iY (hB n (.p z)) (a.toList.map fun(i,x)=>(i,ρ x)))]}:=by
 obtain⟨e,af,b⟩:=kS b;obtain⟨i,f,z1,z2,z3,z4⟩:=rk W;rw[b.qS]at z1;intro H w ad ah β t Q Y _ M;have B:H[base]?=some .hole:=by simpa using M 0 (by simp)
 have D:∀p∈a.toList,aB P w ad β H (ρ p.2) (t p.2)/\aE (aJ H) (ρ p.2):=fun p d=>Y p.2 (by rw[C];exact K6 d);obtain⟨Z,aa⟩:=K5 (ρ:=ρ) (ρc:=t) (parts:=a) (fun p d=>(D p d).1);have F:=z3 w ad;have s:f.cells.size=sz:=by have:=(pO F).1;simp at this;omega
 have r:=yO (β:=β) (H:=H) F n;have X:f.cells.toList.length=sz:=by simpa using s
 rw[X]at r;obtain⟨y,m⟩:∃c,c=(cd (n*sz)).map (f.cells[·% f.cells.size]!):=⟨_,rfl⟩
 have N:y.toList=(hB n f.cells.toList).flatten:=by
  rw[m,<-s];exact Cr _ _ (by rw[s];exact b.pos)
 have S:bM P w ad β H (hB n sz) (hB n (.p z)) (hB n f.cells.toList):=by
  unfold Row at r;simpa using r
 obtain⟨u,I,g1,g2,g3⟩:=CH (place:=fun i=>some (i*sz,sz)) (by
  intro i ae j;rw[hL]at j
  split at j
  ·rename_i ab;simp at j;subst j;rw[hE,i1 (by omega),hD]
  ·simp at j) Z aa O S N
 have l:(iY (hB n (.p z)) (a.toList.map fun(i,x)=>(i,ρ x))).length=n:=by
  have:=(yP g2).2.1;simpa using this
 have E:Row P w ad β H sz (iY (hB n (.p z)) (a.toList.map fun(i,x)=>(i,ρ x))) I:=by unfold Row;rw[l];exact g2
 have R:aS (aJ H) (iY (hB n (.p z)) (a.toList.map fun(i,x)=>(i,ρ x))):=by
  refine C7 ?_ ?_
  ·rw[c7];intro v V;rw[h5 V];simp[aE]
  ·intro p d;simp only[ix]at d;obtain⟨q,hq,rfl⟩:=d;exact(D q hq).2
 have L:u.size=n*sz:=by
  have A:=(gp E).2;rw[l,<-g3]at A;simpa using A
 have U:(dx t o).run P w=.ok (.value (.slice (some ⟨w.heap.size,0,none⟩) n n)) {w with heap:=w.heap.push (.cells u e)}:=by
  simp only[dx,C];have J:¬(n*sz>2^24):=by omega
  have K:n*sz=0->(cd (n*sz)).map ((#[]:Array dl)[·% (#[]:Array dl).size]!)=y:=by
   intro g;rw[m,g];simp
  refine vQ ?_;simp only[Instr.buildSlice,hl,dg b.gR,hj,b.run,if_neg J]
  by_cases g:n*sz=0
  ·rw[if_pos g];simp only[hl,hm,hj,K g,g1,newRow,ee]
  ·rw[if_neg g];simp only[hl,hm,hj,ua z1 z2,<-m,g1,newRow,ee]
 obtain⟨q1,G⟩:=Cy (T:=e) (k:=.exact) Q B (by simp) (by simp[di,AK.gr]) E R (rest:=[]) (by simpa using g3) (by rw[L]) (by omega:_<=n) (fun _=>l.symm) (fun h=>by cases h);rw[l]at G;exact⟨_,_,_,_,ad,U,.inl rfl,q1,G,by
  simp only[aE,mn];exact⟨_,hA (hz.1 B).1,iz _⟩⟩
theorem UM{T:dq}{lo q:dp}{sz:Nat}{z:PV}{l:Int}(t:o.op= .makeSlice T lo q)(a:cG P T=some sz)(W:b9 P (eE P T)=some z)(K:ρ lo= .p (.int .i64 l))(hc:ρ q= .p (.int .i64 l))
 (hs:bG P (aI z)=sz)(b:0<=l)(L:l<=c8):bB P o ρ base {v:=.sl base 0 sz 0 l.toNat,aP:=[.arr .exact 0 sz (hB l.toNat (.p z))]}:=by
 obtain⟨e,d,a⟩:=kS a;obtain⟨i,g,z1,z2,z3,z4⟩:=rk W;rw[a.qS]at z1;intro H w ad ah β Y N B _ J;have u:H[base]?=some .hole:=by simpa using J 0 (by simp)
 have r:=(B lo (by simp[t,gt])).1;have j:=(B q (by simp[t,gt])).1;rw[K]at r;rw[hc]at j;simp only[aB,aD]at r j;have A:=z3 w ad;have m:g.cells.size=sz:=by have:=(pO A).1;simp at this;omega
 obtain⟨n,rfl⟩:=Int.eq_ofNat_of_zero_le b;have y:=yO (β:=β) (H:=H) A n;have X:g.cells.toList.length=sz:=by simpa using m
 rw[X]at y;obtain⟨f,s⟩:∃c,c=(cd (n*sz)).map (g.cells[·% g.cells.size]!):=⟨_,rfl⟩
 have x:f.toList=(hB n g.cells.toList).flatten:=by
  rw[s,<-m];exact Cr _ _ (by rw[m];exact a.pos)
 have M:n<=1073741824:=by unfold c8 at L;omega
 have D:d.bytes*n<=32768*1073741824:=i6 (by have:=a.bytes;omega) M;have O:(dx Y o).run P w=.ok (.value (.slice (some ⟨w.heap.size,0,none⟩) n n)) {w with heap:=w.heap.push (.cells f e)}:=by
  simp only[dx,t,r,j];have V:IntKind.i64.wrap (n:Int)=n:=IntWalk.i64_in _ (by omega);have Q:¬((n:Int)<0):=by omega
  have R:¬((d.bytes:Int)*n>2^48):=by
   intro I;have j:d.bytes*n<=35184372088832:=D;have Z:((d.bytes*n:Nat):Int)>281474976710656:=by rw[Int.natCast_mul];exact I
   omega
  have E:n*sz=0->(cd (n*sz)).map ((#[]:Array dl)[·% (#[]:Array dl).size]!)=f:=by
   intro b;rw[s,b];simp
  have S:(typeInfo e).run P w=.ok d w:=by simp[typeInfo,a.info]
  have F:((decide ((n:Int)<0)||decide ((d.bytes:Int)*n>2^48))||decide ((n:Int)<0)||decide ((n:Int)>n))=false:=by
   simp only[Q,R,decide_false,Bool.or_false,Bool.false_or];simp
  refine vQ ?_;simp only[Instr.makeSlice,hl,dg a.gR,hj,asInt,asIntOf,hm,S,V];rw[if_neg (by simpa using F)];simp only[hl,run_askRoom,hj,a.run,Int.toNat_natCast]
  by_cases b:n*sz=0
  ·rw[if_pos b];simp only[hl,hm,hj,E b,newRow,ee]
  ·rw[if_neg b];simp only[hl,hm,hj,ua z1 z2,<-s,newRow,ee]
 have G:f.size=n*sz:=by
  have:=congrArg hT x;simp at this;rw[this];simp[m]
 obtain⟨q1,C⟩:=Cy (T:=e) (k:=.exact) N u (cells:=f) (cap:=n) (by simp) (by simp[di,AK.gr]) y (by
  rw[c7];intro v U;rw[h5 U];simp[aE]) (rest:=[]) (by simpa using x) G (by simp) (fun _=>by simp) (fun h=>by cases h)
 simp only[List.length_replicate]at C;exact⟨_,_,_,_,ad,O,.inl rfl,q1,C,by
  simp only[aE,mn];exact⟨_,hA (hz.1 u).1,iz _⟩⟩
end
section
variable{P:dz}{w:dy}{ad ah:Nat->Prop}{β:Bd}{H:aj}
variable{o:Oper}{ρ:dp->AV}{base:Nat}
theorem kU{x:Option dp}{d:Nat}{R:Nat->Prop}(h:gX (x.map ρ) d R):
 ∃n,R n/\((x=none/\n=d)\/∃y k,x=some y/\ρ y=.p (.int k n)):=by
 cases x with
 |none=>exact⟨d,h,.inl ⟨rfl,rfl⟩⟩
 |some y=>
  simp only[j3,gX]at h
  split at h
  ·rename_i hx;cases hx
  ·rename_i k i hx;simp at hx;obtain⟨a,h⟩:=h;refine⟨i.toNat,h,.inr ⟨y,k,rfl,?_⟩⟩;rw[hx,Int.toNat_of_nonneg a]
  ·exact h.elim
theorem tP{lo hi:Option dp}{ρc:dp->dl}{b:Bool}{len cap d h l:Nat}(m:d=len)(n:(hi=none/\h=d)\/∃y k,hi=some y/\ρ y= .p (.int k h))(o:(lo=none/\l=0)\/∃y k,lo=some y/\ρ y= .p (.int k l))
 (f:h<=cap)(g:l<=h)(e:∀y,(hi=some y\/lo=some y)->aB P w ad β H (ρ y) (ρc y)):(fw b len cap (lo.map ρc) (hi.map ρc) none).run P w=.ok (l,h,cap) w:=by
 subst m;rcases n with⟨rfl,rfl⟩|⟨y,k,rfl,i⟩<;>rcases o with⟨rfl,rfl⟩|⟨z,q,rfl,j⟩
 ·simp[fw]
 ·have c:=e z (.inr rfl);rw[j]at c;simp only[aB,aD]at c;simp[fw,c,ge,asIntOf,g]
 ·have a:=e y (.inl rfl);rw[i]at a;simp only[aB,aD]at a;simp[fw,a,ge,asIntOf,f]
 ·have a:=e y (.inl rfl);rw[i]at a;simp only[aB,aD]at a;have c:=e z (.inr rfl);rw[j]at c;simp only[aB,aD]at c;simp[fw,a,c,ge,asIntOf,f,g]
theorem tM{T e:dq}(b:P.underlying T=some (.slice e))(x:dl)(lo hi a:Option dl)(w:dy):(gi T x lo hi a).run P w=(gb T x lo hi a).run P w:=by
 simp only[gi,hl,dg b,hj]
theorem U2{T:dq}(b:P.underlying T=some .string)(x:dl)(lo hi a:Option dl)(w:dy):(gi T x lo hi a).run P w=(gb T x lo hi a).run P w:=by
 simp only[gi,hl,dg b,hj]
theorem pQ{T:dq}{x y:dp}{lo hi b:Option dp}(a:o.op=.slice T x lo hi b)(h:hi=some y\/lo=some y):y∈o.op.operands:=by
 rw[a];simp only[gt];rcases h with rfl|rfl<;>simp
theorem yU{T:dq}(h:ja P T=true):P.underlying T=some .string:=by
 unfold ja at h
 split at h
 ·assumption
 ·simp at h
theorem v7{ai:Nat}:∀{l:List AV},fq P ai l↔∀v∈l,aa v≠.bad/\bG P (aa v)=ai
 |[]=>by simp[fq]
 |v::l=>by simp[fq,v7 (l:=l)]
theorem uf{sz ai:Nat}{a:List AV}{d:List (List dl)}(b:Row P w ad β H ai a d)(hs:fq P sz a)(g:a≠[]):ai=sz:=by
 cases a with
 |nil=>exact(g rfl).elim
 |cons v a=>
  rw[rA]at b;obtain⟨c,cs,rfl,e,f,_⟩:=b;have:=(v7.1 hs v (by simp)).2;rw[<-f,(oA e).1,this]
theorem MS{ai:Nat}{d:List PV}{e:List (List dl)}(h:bk P w ad (hB d.length ai) d e)(off len:Nat)(f:off+len<=d.length):
 ∃a b c,e=a++b++c/\bk P w ad (hB ((d.drop off).take len).length ai) ((d.drop off).take len) b/\a.flatten.length=off*ai:=by
 have g:Row P w ad ⟨id,id⟩ [] ai (d.map .p) e:=mE.2 h;obtain⟨a,b,c,e1,e2,e3,_⟩:=kq g off len (by simpa using f);rw[Cj,mE]at e2;exact⟨a,b,c,e1,e2,e3⟩
theorem Yw{T:dq}{x:dp}{lo hi N:Option dp}(r:o.op= .slice T x lo hi N){H0:aj}{K:aR->Prop}(h:oH P T H0 (ρ x) (lo.map ρ) (hi.map ρ) (N.map ρ) K):
 ∃e,K e/\bB P o ρ base e/\(∀p∈e.al,H0[p.1]?=some p.2)/\e.aL=[]:=by
 unfold oH at h;obtain⟨ap,h⟩:=h;obtain rfl:N=none:=by cases N<;>simp_all
 have J:x∈o.op.operands:=by rw[r];simp[gt]
 split at h
 ·
  rename_i s hx;obtain⟨af,h⟩:=h;have ab:=yU af;obtain⟨l,h,C⟩:=kU h;obtain⟨f,h,D⟩:=kU h;obtain⟨A,B,h⟩:=h;refine⟨_,h,bB.same fun H w ad ah β n v m _=>?_,by simp,rfl⟩;have j:=(m x J).1;rw[hx]at j;simp only[aB,aD]at j;obtain⟨bs,e1,e2⟩:=j;have ag:s.length=bs.size:=by rw[e2];simp
  have u:=tP (P:=P) (w:=w) (ad:=ad) (β:=β) (H:=H) (b:=false) (cap:=bs.size) (ρ:=ρ) (ρc:=n) ag C D (by omega) B (fun y z=>(m y (pQ r z)).1);refine⟨.string (bs.extract f l),?_,?_,by simp[aE]⟩
  ·simp only[dx,r,e1];refine fp ?_;rw[U2 ab];simp only[gb,hl,dg ab,hj,j1,Option.isSome_none];simp[u]
  ·simp only[aB,aD];refine⟨_,rfl,?_⟩;rw[e2,<-ip,<-List.map_drop,Go.Lib.extract_data,hV]
 ·
  rename_i hx;obtain⟨g,h⟩:=h;obtain⟨sz,g⟩:=jP.1 g;obtain⟨e,X,g⟩:=kS g;obtain⟨l,h,C⟩:=kU h;obtain⟨f,h,D⟩:=kU h;obtain⟨A,B,F⟩:=h;obtain rfl:l=0:=by omega
  obtain rfl:f=0:=by omega
  refine⟨_,F,bB.same fun H w ad ah β n v m _=>?_,by simp,rfl⟩;have j:=(m x J).1;rw[hx]at j;simp only[aB,aD]at j;have u:=tP (P:=P) (w:=w) (ad:=ad) (β:=β) (H:=H) (b:=true) (cap:=0) (ρ:=ρ) (ρc:=n) (len:=0) (d:=0) rfl C D (by omega) B (fun y z=>(m y (pQ r z)).1);refine⟨.slice none 0 0,?_,by rw[hx];simp[aB,aD],by rw[hx];simp[aE]⟩;simp only[dx,r,j];refine fp ?_;rw[tM g.gR];simp only[gb,hl,dg g.gR,hj,j1,u,g.run];simp
 ·
  rename_i full q hx;obtain⟨l,h,C⟩:=kU h;obtain⟨f,h,D⟩:=kU h;obtain⟨A,B,h⟩:=h
  split at h
  case h_2=>exact h.elim
  rename_i sz g;obtain⟨U,h⟩:=h;obtain⟨e,X,g⟩:=kS g;refine⟨_,h,bB.same fun H w ad ah β n v m _=>?_,by simp,rfl⟩;have j:=(m x J).1;rw[hx]at j;simp only[aB,aD]at j;obtain⟨aq,off,cap,ai,Y,v1,v2,v3,v4,v5,sp,V,v6⟩:=j;have W:cap≠f->sp=none:=fun h=>V.resolve_right (by omega);have u:=tP (P:=P) (w:=w) (ad:=ad) (β:=β) (H:=H) (b:=true) (cap:=cap) (ρ:=ρ) (ρc:=n) rfl C D (by omega) B (fun y z=>(m y (pQ r z)).1);refine⟨.slice (some (if cap=f then⟨aq,off,sp⟩else⟨aq,off+f*sz,none⟩)) (l-f) (cap-f),?_,?_,by simp[aE]⟩
  ·simp only[dx,r,v6];refine fp ?_;rw[tM g.gR];simp only[gb,hl,dg g.gR,hj,j1,u,g.run]
   by_cases hc:cap=f
   ·simp[hc]
   ·obtain rfl:=W hc;simp[hc,kX]
  ·have I:((q.take l).drop f).length=l-f:=by simp;omega
   simp only[aB,aD,I]
   by_cases E:q=[]
   ·subst E;simp at A;subst A;obtain rfl:f=0:=by omega
    by_cases hc:cap=0
    ·exact⟨aq,off,cap,sz,[],by simp[bk],by simp,by intro i hi;simp at hi,fun _=>by simpa using hc,by simp,sp,.inr hc,by simp[hc]⟩
    ·exact⟨aq,off,cap,sz,[],by simp[bk],by simp,by intro i hi;simp at hi,fun hf=>by simp at hf;simpa using v4 hf,by simp,none,.inl rfl,by simp[hc]⟩
   ·have Q:ai=sz:=uf (w:=w) (ad:=ad) (β:=β) (H:=H) (mE.2 v1) U (by simpa using E);subst Q;obtain⟨a,b,c,e1,e2,e3⟩:=MS v1 f (l-f) (by omega);rw[<-hV]at e2;have ao:(q.drop f).take (l-f)=(q.take l).drop f:=by rw[hV]
    rw[I]at e2
    by_cases hc:cap=f
    ·obtain rfl:l=f:=by omega
     have O:b=[]:=by
      have:=(vR e2).2.2;simpa using this
     subst O;refine⟨aq,off,cap-l,ai,[],by simpa using e2,fun _=>v2 E,by intro i hi;simp at hi,?_,by omega,sp,.inr (by omega),by simp[hc]⟩;intro _;omega
    ·refine⟨aq,off+f*ai,cap-f,ai,b,e2,fun _=>v2 E,?_,?_,by omega,none,.inl rfl,by simp[hc]⟩
     ·have:=tS v3 (pre:=a.flatten) (xs:=b.flatten) (post:=c.flatten) (by rw[e1];simp);rw[e3]at this;exact this
     ·intro hf;simp at hf;have:=v4 hf.1;omega
 ·
  rename_i q hx;obtain⟨l,h,C⟩:=kU h;obtain⟨f,h,D⟩:=kU h;obtain⟨A,B,h⟩:=h
  split at h
  case h_2=>exact h.elim
  rename_i sz g;obtain⟨U,h⟩:=h;obtain⟨e,X,g⟩:=kS g;refine⟨_,h,bB.same fun H w ad ah β n v m _=>?_,by simp,rfl⟩;have j:=(m x J).1;rw[hx]at j;simp only[aB,aD]at j;rcases j with⟨rfl,j⟩|⟨aq,off,cap,ai,Y,v1,v2,v3,v5,sp,V,v6⟩
  ·simp at A;subst A;obtain rfl:f=0:=by omega
   have u:=tP (P:=P) (w:=w) (ad:=ad) (β:=β) (H:=H) (b:=true) (cap:=0) (ρ:=ρ) (ρc:=n) (len:=0) (d:=0) rfl C D (by omega) B (fun y z=>(m y (pQ r z)).1);refine⟨.slice none 0 0,?_,by simp[aB,aD],by simp[aE]⟩;simp only[dx,r,j];refine fp ?_;rw[tM g.gR];simp only[gb,hl,dg g.gR,hj,j1,u,g.run];simp
  have W:cap≠f->sp=none:=fun h=>V.resolve_right (by omega);have u:=tP (P:=P) (w:=w) (ad:=ad) (β:=β) (H:=H) (b:=true) (cap:=cap) (ρ:=ρ) (ρc:=n) rfl C D (by omega) B (fun y z=>(m y (pQ r z)).1);refine⟨.slice (some (if cap=f then⟨aq,off,sp⟩else⟨aq,off+f*sz,none⟩)) (l-f) (cap-f),?_,?_,by simp[aE]⟩
  ·simp only[dx,r,v6];refine fp ?_;rw[tM g.gR];simp only[gb,hl,dg g.gR,hj,j1,u,g.run]
   by_cases hc:cap=f
   ·simp[hc]
   ·obtain rfl:=W hc;simp[hc,kX]
  ·have I:((q.take l).drop f).length=l-f:=by simp;omega
   simp only[aB,aD,I];right
   by_cases E:q=[]
   ·subst E;simp at A;subst A;obtain rfl:f=0:=by omega
    by_cases hc:cap=0
    ·exact⟨aq,off,cap,sz,[],by simp[bk],by simp,by intro i hi;simp at hi,by simp,sp,.inr hc,by simp[hc]⟩
    ·exact⟨aq,off,cap,sz,[],by simp[bk],by simp,by intro i hi;simp at hi,by simp,none,.inl rfl,by simp[hc]⟩
   ·have Q:ai=sz:=uf (w:=w) (ad:=ad) (β:=β) (H:=H) (mE.2 v1) U (by simpa using E);subst Q;obtain⟨a,b,c,e1,e2,e3⟩:=MS v1 f (l-f) (by omega);rw[<-hV]at e2;rw[I]at e2
    by_cases hc:cap=f
    ·obtain rfl:l=f:=by omega
     have O:b=[]:=by
      have:=(vR e2).2.2;simpa using this
     subst O;exact⟨aq,off,cap-l,ai,[],by simpa using e2,fun _=>v2 E,by intro i hi;simp at hi,by omega,sp,.inr (by omega),by simp[hc]⟩
    ·refine⟨aq,off+f*ai,cap-f,ai,b,e2,fun _=>v2 E,?_,by omega,none,.inl rfl,by simp[hc]⟩;have:=tS v3 (pre:=a.flatten) (xs:=b.flatten) (post:=c.flatten) (by rw[e1];simp);rw[e3]at this;exact this
 ·
  rename_i b aA ai off len hx
  split at h
  case h_2=>exact h.elim
  rename_i k ar an q S;obtain⟨rfl,rfl,g,M,hlen,h⟩:=h;obtain⟨l,h,C⟩:=kU h;obtain⟨f,h,D⟩:=kU h;obtain⟨A,B,F⟩:=h;obtain⟨e,X,g⟩:=kS g
  have key:∀(H:aj)(w:dy)(ad ah:Nat->Prop)(β:Bd)(n:dp->dl),bV P w ad β H ah->(∀x∈o.op.operands,aB P w ad β H (ρ x) (n x)/\aE (aJ H) (ρ x))->
   H[b]?=some (.arr k aA ai q)->q.length<=β.cap b/\(dx n o).run P w=.ok (.value (.slice (some (if β.cap b-off=f then⟨β.aq b,off*ai,none⟩else⟨β.aq b,off*ai+f*ai,none⟩)) (l-f) (β.cap b-off-f))) w:=by
   intro H w ad ah β n v m t;have j:=(m x J).1;rw[hx]at j;simp only[aB,bO,bS]at j;obtain⟨_,_,j⟩:=j.2 k q t;have j:=j M;rcases v.cM b _ t with hold|⟨cs,am,Y,rest,k1,k2,k3,k4,k5,k6⟩
   ·exact(M hold).elim
   have u:=tP (P:=P) (w:=w) (ad:=ad) (β:=β) (H:=H) (b:=true) (cap:=β.cap b-off) (ρ:=ρ) (ρc:=n) rfl C D (by omega) B (fun y z=>(m y (pQ r z)).1);refine⟨k5,?_⟩;simp only[dx,r,j];refine fp ?_;rw[tM g.gR];simp only[gb,hl,dg g.gR,hj,j1,u,g.run]
   by_cases hc:β.cap b-off=f
   ·simp[hc]
   ·simp[hc,kX]
  split at F
  ·rename_i Z;subst Z;refine⟨_,F,bB.same fun H w ad ah β n v m al=>?_,by simpa using S,rfl⟩;have t:H[b]?=some (.arr k aA ai q):=by simpa using al
   obtain⟨ac,L⟩:=key H w ad ah β n v m t;refine⟨_,L,?_,?_⟩
   ·simp only[aB,bO,bS];refine⟨by simp[ht],fun ak ae G=>?_⟩;unfold fI at G;rw[t]at G;cases G;exact⟨by omega,fun R=>(M R).elim,fun _=>by simp⟩
   ·simp only[aE];exact⟨_,t,iz _⟩
  ·rename_i Z
   split at F
   ·rename_i aa;subst aa;refine⟨_,F,bB.same fun H w ad ah β n v m al=>?_,by simpa using S,rfl⟩;have t:H[b]?=some (.arr k aA ai q):=by simpa using al
    obtain⟨ac,L⟩:=key H w ad ah β n v m t;refine⟨_,L,?_,by simp[aE]⟩;simp only[aB,aD]
    by_cases hc:β.cap b-off=f
    ·exact⟨β.aq b,off*ai,β.cap b-off-f,ai,[],by simp[bk],by simp,by intro i hi;simp at hi,by simp,by simp,by simp[hc]⟩
    ·exact⟨β.aq b,off*ai+f*ai,β.cap b-off-f,ai,[],by simp[bk],by simp,by intro i hi;simp at hi,by simp,by simp,by simp[hc]⟩
   ·rename_i aa;refine⟨_,F,bB.same fun H w ad ah β n v m al=>?_,by simpa using S,rfl⟩;have t:H[b]?=some (.arr k aA ai q):=by simpa using al
    obtain⟨ac,L⟩:=key H w ad ah β n v m t;refine⟨_,L,?_,?_⟩
    ·simp only[aB,bO,bS];refine⟨by simp[ht],fun ak ae G=>?_⟩;unfold fI at G;rw[t]at G;cases G;refine⟨by omega,fun R=>(M R).elim,fun _=>?_⟩;have hc:¬(β.cap b-off=f):=by omega
     rw[if_neg hc,i3,Nat.sub_sub]
    ·simp only[aE];exact⟨_,t,iz _⟩
 ·exact h.elim
theorem Xj{T:dq}{x:dp}{lo hi:Option dp}{d:dp}(g:o.op= .slice T x lo hi (some d)){H0:aj}{K:aR->Prop}(h:rF P T H0 (ρ x) (lo.map ρ) (hi.map ρ) (ρ d) K):
 ∃e,K e/\bB P o ρ base e/\(∀p∈e.al,H0[p.1]?=some p.2)/\e.aL=[]:=by
 unfold rF at h;have S:x∈o.op.operands:=by rw[g];simp[gt]
 split at h
 case h_2=>exact h.elim
 rename_i b aA ai off len hx
 split at h
 case h_2=>exact h.elim
 rename_i k ag ab es V;obtain⟨rfl,rfl,c,E,hlen,X,h⟩:=h;obtain⟨i,h,Q⟩:=kU h;obtain⟨I,h,R⟩:=kU h;have J:gX ((some d).map ρ) 0 (fun m=>off+m<=es.length/\i<=m/\I<=i/\K {v:=.p .undef,al:=[(b,.arr k aA ai es)]}):=h;obtain⟨B,h,U⟩:=kU J;obtain⟨ac,C,L,M⟩:=h;obtain⟨sz,c⟩:=jP.1 c;obtain⟨e,af,c⟩:=kS c;refine⟨_,M,bB.same fun H w ad ah β f W n al=>?_,by simpa using V,rfl⟩;have F:H[b]?=some (.arr k aA ai es):=by simpa using al
 have a:=(n x S).1;rw[hx]at a;simp only[aB,bO,bS]at a;obtain⟨_,_,a⟩:=a.2 k es F;have a:=a E;rcases W.cM b _ F with hold|⟨cs,Z,aa,rest,k1,k2,k3,k4,k5,k6⟩
 ·exact(E hold).elim
 have s:∃q,ρ d=.p (.int q B):=by
  rcases U with⟨h,_⟩|⟨y,q,A,a⟩
  ·cases h
  ·cases A;exact⟨q,a⟩
 obtain⟨q,s⟩:=s;have j:=(n d (by rw[g];simp[gt])).1;rw[s]at j;simp only[aB,aD]at j;have O:∃y G,hi=some y/\ρ y=.p (.int G i):=by
  rcases Q with⟨rfl,_⟩|h
  ·simp at X
  ·exact h
 obtain⟨y,G,rfl,A⟩:=O;have l:=(n y (pQ g (.inl rfl))).1;rw[A]at l;simp only[aB,aD]at l;have N:(fw true len (β.cap b-off) (lo.map f) (some (f y)) (some (f d))).run P w=.ok (I,i,B) w:=by
  have D:(B:Int)<=((β.cap b-off:Nat):Int):=by omega
  rcases R with⟨rfl,rfl⟩|⟨z,ae,rfl,Y⟩
  ·simp[fw,j,l,ge,asIntOf,D,C]
  ·have u:=(n z (pQ g (.inr rfl))).1;rw[Y]at u;simp only[aB,aD]at u;simp[fw,j,l,u,ge,asIntOf,D,C,L]
 have t:∃r,(gi T (f x) (lo.map f) (some (f y)) (some (f d))).run P w=.ok r w:=by
  rw[tM c.gR,a];simp only[gb,hl,dg c.gR,hj,N,c.run];exact⟨_,rfl⟩
 obtain⟨r,t⟩:=t;refine⟨r,?_,by simp only[aB,aD],by simp[aE]⟩;simp only[dx,g,j3];exact fp t
end
section
variable{P:dz}{w:dy}{ad ah:Nat->Prop}{β:Bd}{H:aj}
variable{o:Oper}{ρ:dp->AV}{base:Nat}
theorem pG{H0 H:aj}{a:AV}{c:List AV}(h:iq H0 a=some c)(al:∀p∈dJ H0 a,H[p.1]?=some p.2):iq H a=some c:=by
 cases a with
 |sl b aA ai off len=>
  simp only[iq]at h⊢;simp only[dJ]at al
  split at h
  case h_2=>simp at h
  rename_i k g f e d;rw[d]at al;have:=al _ (hZ.2 rfl);simp only at this;rw[this];exact h
 |p v=>cases v<;>exact h
 |_=>simp[iq]at h
theorem n6{H0:aj}{a:AV}:∀p∈dJ H0 a,H0[p.1]?=some p.2:=by
 intro p b;unfold dJ at b
 split at b
 all_goals first
  |(split at b
    ·rename_i o c;simp at b;subst b;exact c
    ·simp at b)
  |simp at b
theorem vO{sz m:Nat}{aq off n c:Nat}{w:dy}{xs:List dl}(e:xs.length=m*sz)(hc:ir w aq off xs):(e7 sz m (.slice (some ⟨aq,off,none⟩) n c)).run P w=.ok xs.toArray w:=by
 refine ej w sz m _ n c xs e ?_;intro j v a;rw[kX];obtain⟨b,d⟩:=hz.1 a;rw[hc j b,d]
theorem Ce{sz n c:Nat}{a:Addr}{w:dy}:(e7 sz 0 (.slice (some a) n c)).run P w=.ok #[] w:=
 ej w sz 0 a n c [] (by simp) (fun j v b=>by simp at b)
theorem wT{sz:Nat}{a:AV}{u:List AV}{v:dl}(g:iq H a=some u)(I:bV P w ad β H ah)(i:aB P w ad β H a v)(S:aE (aJ H) a)(hs:fq P sz u):
 ∃d,Row P w ad β H sz u d/\aS (aJ H) u/\fa v=pure u.length/\
  ∀w':dy,w'.heap=w.heap->∀m,m<=u.length->(e7 sz m v).run P w'=.ok (d.take m).flatten.toArray w':=by
 have G:∀{f:List AV}{d:List (List dl)}(m:Nat),Row P w ad β H sz f d->m<=f.length->(d.take m).flatten.length=m*sz:=by
  intro f d m h j;obtain⟨x,y,z,e1,e2,e3,e4,e5⟩:=kq h 0 m (by omega);have hx:x=[]:=by have:=(gp e4).1;simpa using this
  have O:y.length=m:=by have:=(gp e2).1;simp at this;omega
  subst hx;have K:d.take m=y:=by rw[e1];simp[O]
  rw[K];have:=(gp e2).2;rw[this];simp[j]
 have cells:∀{aq off:Nat}{d:List (List dl)}(w':dy),w'.heap=w.heap->ir w aq off d.flatten->∀m,ir w' aq off (d.take m).flatten:=by
  intro aq off d w' q hc m;have J:ir w' aq off d.flatten:=hc.same (by rw[q]);have:=tS J (pre:=[]) (xs:=(d.take m).flatten) (post:=(d.drop m).flatten) (by
   rw[ii,<-hX,List.take_append_drop])
  simpa using this
 cases a with
 |p t=>
  cases t with
  |aH=>
   simp[iq]at g;subst g;simp only[aB,aD]at i;subst i;exact⟨[],iN.2 rfl,by simp[aS],rfl,fun w' _ m j=>by simp[e7]⟩
  |cT full f=>
   simp[iq]at g;subst g;simp only[aB,aD]at i;obtain⟨aq,off,cap,ai,d,v1,v2,v3,v4,v5,sp,E,rfl⟩:=i;rcases E with rfl|rfl
   case inr=>
    obtain rfl:f=[]:=hF.1 (by omega);exact⟨[],iN.2 rfl,by simp[aS],rfl,fun w' _ m j=>by
     obtain rfl:m=0:=by simpa using j
     exact Ce⟩
   have h:Row P w ad β H ai (f.map .p) d:=mE.2 v1;have o:Row P w ad β H sz (f.map .p) d:=by
    by_cases n:f.map AV.p=[]
    ·rw[n]at h⊢;rw[iN]at h⊢;exact h
    ·rw[<-uf h hs n];exact h
   refine⟨d,o,ju _ _,by simp[fa],fun w' q m j=>?_⟩;exact vO (G m o j) (cells w' q v3 m)
  |seq f=>
   simp[iq]at g;subst g;simp only[aB,aD]at i;rcases i with⟨rfl,rfl⟩|⟨aq,off,cap,ai,d,v1,v2,v3,v5,sp,E,rfl⟩
   ·exact⟨[],iN.2 rfl,by simp[aS],rfl,fun w' _ m j=>by simp[e7]⟩
   rcases E with rfl|rfl
   case inr=>
    obtain rfl:f=[]:=hF.1 (by omega);exact⟨[],iN.2 rfl,by simp[aS],rfl,fun w' _ m j=>by
     obtain rfl:m=0:=by simpa using j
     exact Ce⟩
   have h:Row P w ad β H ai (f.map .p) d:=mE.2 v1;have o:Row P w ad β H sz (f.map .p) d:=by
    by_cases n:f.map AV.p=[]
    ·rw[n]at h⊢;rw[iN]at h⊢;exact h
    ·rw[<-uf h hs n];exact h
   refine⟨d,o,ju _ _,by simp[fa],fun w' q m j=>?_⟩;exact vO (G m o j) (cells w' q v3 m)
  |str s=>
   simp[iq]at g;subst g;simp only[aB,aD]at i;obtain⟨bs,rfl,rfl⟩:=i;have N:sz=1\/bs.data.toList=[]:=by
    cases B:bs.data.toList with
    |nil=>exact .inr rfl
    |cons a r=>
     rw[B]at hs;simp[fq,aa,aI,bG]at hs;exact .inl hs.1.symm
   have h:Row P w ad β H sz ((bs.data.toList.map (·.toNat)).map fun c=>.p (.int .u8 (c:Nat))) (bs.data.toList.map fun c=>[hv .u8 c.toNat]):=by
    rcases N with rfl|B
    ·generalize bs.data.toList=l
     induction l with
     |nil=>exact iN.2 rfl
     |cons a r F=>exact rA.2 ⟨_,_,rfl,by simp[bu,aU],rfl,F⟩
    ·rw[B];exact iN.2 rfl
   refine⟨_,h,by rw[c7];intro v i;simp at i;obtain⟨a,_,rfl⟩:=i;simp[aE],by simp[fa],fun w' _ m _=>?_⟩;have e:((bs.data.toList.map fun c=>[hv .u8 c.toNat]).take m).flatten=(bs.data.toList.take m).map fun c=>hv .u8 c.toNat:=by
    rw[<-ip];generalize bs.data.toList.take m=l
    induction l with
    |nil=>rfl
    |cons a r F=>simp[F]
   rw[e];simp only[e7,hm];congr 1;apply b5;simp[ByteArray.data_extract]
  |_=>simp[iq]at g
 |sl b aA ai off len=>
  simp only[iq]at g
  split at g
  case h_2=>simp at g
  rename_i k T R f D
  split at g
  case isFalse=>simp at g
  rename_i hc;obtain⟨rfl,rfl,C⟩:=hc;simp at g;subst g;simp only[aB,bO,bS]at i;obtain⟨_,v2,v3⟩:=i.2 k f D;have M:((f.drop off).take len).length=len:=by simp;omega
  by_cases A:di k f
  ·rw[v2 A];have L:=A.2;subst L;simp at C;obtain⟨rfl,rfl⟩:=C;exact⟨[],iN.2 (by simp),by simp[aS],rfl,fun w' _ m j=>by simp[e7]⟩
  ·rw[v3 A];rcases I.cM b _ D with hold|⟨cs,Q,d,rest,k1,k2,k3,k4,k5,k6⟩
   ·exact(A hold).elim
   obtain⟨x,y,z,e1,e2,e3,e4,e5⟩:=kq k2 off len C;have o:Row P w ad β H sz ((f.drop off).take len) y:=by
    by_cases n:(f.drop off).take len=[]
    ·rw[n]at e2⊢;rw[iN]at e2⊢;exact e2
    ·rw[<-uf e2 hs n];exact e2
   refine⟨y,o,?_,by rw[M];rfl,fun w' q m j=>?_⟩
   ·rw[c7];intro v i;exact c7.1 (I.refs b _ D) v (hM (hH i))
   ·refine vO (G m o j) (cells w' q ?_ m);rw[<-e3];exact mw k1 (post:=z.flatten++rest) (by rw[k3,e1];simp)
 |_=>simp[iq]at g
theorem W2{T X e:dq}{i:ea}{f:dl}{sz:Nat}(a:ry P T sz e i)(b:jc P X=true)(y:i.zero=some f)(A:dq){p:Option Addr}{sLen sCap n:Nat}{j h:Array dl}(x:dl)
 (hx:fa x=pure n)(s:(e7 sz sLen (.slice p sLen sCap)).run P w.drew=.ok j w.drew)(aP:(e7 sz n x).run P w.drew=.ok h w.drew)(q:sCap<sLen+n)(g:sLen+n<=c8):
 ∃cap,sLen+n<=cap/\(e8 #[T,X] A #[.slice p sLen sCap,x]).run P w=
  .ok (.slice (some ⟨w.heap.size,0,none⟩) (sLen+n) cap) {w.drew with heap:=w.heap.push (.cells (j++h++fb f.cells (cap-(sLen+n))) e)}:=by
 refine⟨grownCap w (sLen+n) sCap e,by simp[grownCap,Question.cut],?_⟩;have o:∃d,P.underlying X=some d/\∀k,d≠.int k:=by
  unfold jc at b
  split at b
  ·simp at b
  ·rename_i d c v;exact⟨_,v,c⟩
  ·simp at b
 obtain⟨d,c,B⟩:=o;have r:¬(sLen+n<=sCap):=by omega
 have m:¬(9223372036854775807<((sLen:Int)+(n:Int))):=by unfold c8 at g;omega
 have C:fl (sLen+n) sCap*i.bytes<=281474976710656:=by
  refine growslice_fits q ?_;have:=i6 g (Nat.le_of_lt a.bytes);unfold c8 at this;omega
 have l:¬(281474976710656<fl (sLen+n) sCap*i.bytes):=by omega
 have t:(sizeOf e).run P w=.ok sz w:=a.run w;have u:∀w:dy,(typeInfo e).run P w=.ok i w:=fun w=>by simp[typeInfo,a.info]
 have z:∀w:dy,(zeroValue e).run P w=.ok f w:=fun w=>by simp[zeroValue,typeInfo,a.info,y]
 simp[e8,dg a.gR,dg c,t,u,z,hx,r,m,l,Question.forced,s,aP,newRow,grownCap,Array.append_assoc];rfl
theorem JJ{T X e:dq}{i:ea}{sz:Nat}(j:ry P T sz e i)(c:jc P X=true)(t:dq){g off:Nat}{sLen sCap n:Nat}{b:Array dl}{h:dq}{a:List dl}(x:dl)
 (hx:fa x=pure n)(o:w.heap[g]?=some (.cells b h (0,0)))(aP:(e7 sz n x).run P w=.ok a.toArray w)(l:∀u∈a,u.oneCell'=true)(q:sLen+n<=sCap)(p:off+sLen*sz+a.length<=b.size):
 (e8 #[T,X] t #[.slice (some ⟨g,off,none⟩) sLen sCap,x]).run P w=
  .ok (.slice (some ⟨g,off,none⟩) (sLen+n) sCap) (w.setRow g (b.toList.take (off+sLen*sz)++a++b.toList.drop (off+sLen*sz+a.length)).toArray):=by
 have m:∃d,P.underlying X=some d/\∀k,d≠.int k:=by
  unfold jc at c
  split at c
  ·simp at c
  ·rename_i d f s;exact⟨_,s,f⟩
  ·simp at c
 obtain⟨d,f,v⟩:=m;have aM:=em P g (off+sLen*sz) h a 0 b w o (by simpa using p) l;simp only[i4]at aM;have r:(sizeOf e).run P w=.ok sz w:=j.run w;simp[e8,dg j.gR,dg f,r,hx,q,aP,kX,aM]
theorem VT{T X e:dq}{i:ea}{sz:Nat}(f:ry P T sz e i)(b:jc P X=true)(m:dq){p:Option Addr}{sLen sCap:Nat}(x:dl)
 (hx:fa x=pure 0)(aP:(e7 sz 0 x).run P w=.ok #[] w)(g:sLen<=sCap):
 (e8 #[T,X] m #[.slice p sLen sCap,x]).run P w=.ok (.slice p sLen sCap) w:=by
 have j:∃d,P.underlying X=some d/\∀k,d≠.int k:=by
  unfold jc at b
  split at b
  ·simp at b
  ·rename_i d c l;exact⟨_,l,c⟩
  ·simp at b
 obtain⟨d,c,n⟩:=j;have h:(sizeOf e).run P w=.ok sz w:=f.run w;cases p with
 |none=>simp[e8,dg f.gR,dg c,h,hx,g,aP]
 |some a=>simp[e8,dg f.gR,dg c,h,hx,g,aP,storeCells]
theorem bZ.drew{aF:Nat->Prop}{w1 w':dy}{aK:Bd}{H':aj}(a:w1.heap=w.heap)(b:w1.os=w.os/\w1.output=w.output)(h:bZ P ah ad w1 β H aF w' aK H'):bZ P ah ad w β H aF w' aK H':=
 ⟨h.bQ,h.fresh,⟨by rw[<-a];exact h.ext.size,fun k hk=>by rw[<-a];exact h.ext.same k hk,h.ext.io.1.trans b.1,h.ext.io.2.trans b.2⟩,h.step,h.rel,h.fy,h.loop⟩
theorem Ul(z:Array dl)(n:Nat):(fb z n).size=n*z.size:=by simp[fb]
theorem xb{ai:Nat}:∀{b:List AV}{a:List (List dl)},Row P w ad β H ai b a->∀c∈a.flatten,c.oneCell'=true
 |[],a,h=>by rw[iN]at h;subst h;simp
 |v::b,a,h=>by
  rw[rA]at h;obtain⟨c,cs,rfl,d,_,e⟩:=h;intro x hx;simp only[hO,h1]at hx;exact hx.elim (zZ d x) (xb e x)
theorem Row.mono{w':dy}{aF:Nat->Prop}{aK:Bd}{H':aj}(hI:∀k,ad k->aF k)(hs:∀k,ad k->w'.heap[k]?=w.heap[k]?)(aM:cz β H aK H'){ai:Nat}{a:List AV}{b:List (List dl)}(c:aS (aJ H) a)
 (h:Row P w ad β H ai a b):Row P w' aF aK H' ai a b:=bM.mono hI hs aM _ _ _ c h
theorem yV{c:Call}{s x:dp}(e:o.op= .call c)(hc:c.callee= .builtin .append)(b:c.args.toList=[s,x]){a:dp->dl}{w w':dy}{v:dl}
 (h:(e8 c.argTypes o.type #[a s,a x]).run P w=.ok v w'):(dx a o).run P w=.ok (.value v) w':=by
 have d:c.args=#[s,x]:=by apply b5;simpa using b
 simp only[dx,e,resolve,hc,d];simp[invoke,builtin,h]
theorem Xw{c:Call}{s x:dp}(e:o.op= .call c)(hc:c.callee= .builtin .copy)(b:c.args.toList=[s,x]){a:dp->dl}{w w':dy}{v:dl}
 (h:(fm c.argTypes o.type #[a s,a x]).run P w=.ok v w'):(dx a o).run P w=.ok (.value v) w':=by
 have d:c.args=#[s,x]:=by apply b5;simpa using b
 simp only[dx,e,resolve,hc,d];simp[invoke,builtin,h]
end
section
variable{P:dz}{w:dy}{ad ah:Nat->Prop}{β:Bd}{H:aj}
variable{o:Oper}{ρ:dp->AV}{base:Nat}
theorem yK{c:Call}{s x:dp}(D:o.op= .call c)(hc:c.callee= .builtin .append)(y:c.args.toList=[s,x]){T X e:dq}(I:c.argTypes=#[T,X]){i:ea}{j:dl}{sz:Nat}(u:ry P T sz e i)(v:jc P X=true)
 (L:i.zero=some j)(M:j.cells.size=sz)(F:bV P w ad β H ah){g:dp->dl}{p:Option Addr}{b f:Nat}{olds a:List AV}{ocss:List (List dl)}(hs:g s=.slice p b f)(m:olds.length=b)(l:Row P w ad β H sz olds ocss)(E:aS (aJ H) olds)
 (C:(e7 sz b (.slice p b f)).run P w.drew=.ok ocss.flatten.toArray w.drew)
 (hx:iq H (ρ x)=some a)(K:aB P w ad β H (ρ x) (g x))(J:aE (aJ H) (ρ x))(G:fq P sz a)(A:f<b+a.length)(B:b+a.length<=c8):
 ∃cap cells d N,(dx g o).run P w=.ok (.value (.slice (some ⟨w.heap.size,0,none⟩) (b+a.length) cap)) {w.drew with heap:=w.heap.push (.cells cells e)}/\
  Row P w ad β H sz (olds++a) d/\aS (aJ H) (olds++a)/\cells.toList=d.flatten++N/\cells.size=cap*sz/\(olds++a).length<=cap:=by
 obtain⟨d,h,q,r,t⟩:=wT hx F K J G;have k:=t w.drew rfl a.length (iz _);have O:d.length=a.length:=(gp h).1;rw[hR (by omega)]at k;obtain⟨cap,z,n⟩:=W2 u v L o.type (sLen:=b) (sCap:=f) (p:=p) (g x) r C k A B;rw[<-I,<-hs]at n;refine⟨cap,_,ocss++d,(fb j.cells (cap-(b+a.length))).toList,yV D hc y n,lR.2 ⟨_,_,rfl,l,h⟩,kn E q,by simp,?_,by simpa[m]using z⟩;have e1:=(gp l).2;have e2:=(gp h).2;simp only[Array.size_append,h0,Ul,M,e1,e2,m,<-i3];congr 1;omega
theorem uP{T:dq}:gk P T≠.frozen/\gk P T≠.exact:=by
 unfold gk;split<;>simp
theorem E5{T e:dq}(h:eE P T=e)(hk:gk P T=.bytes):e=Gl.u8:=by
 unfold gk at hk
 split at hk
 ·rename_i a;rw[<-h];exact a
 ·cases hk
theorem C3{_o':Obj}{k:AK}{a:List AV}{b:List (List dl)}{r:List dl}{cells:Array dl}{e:dq}{cap sz:Nat}(j:bV P w ad β H ah)(c:H[base]?=some .hole)
 (g:k≠.frozen)(i:¬di k a)(m:Row P w ad β H sz a b)(d:aS (aJ H) a)(hc:cells.toList=b.flatten++r)(o:cells.size=cap*sz)(h:a.length<=cap)(f:k=.exact->cap=a.length)(p:k=.bytes->e=Gl.u8):
 bZ P ah ad w β H ad {w.drew with heap:=w.heap.push (.cells cells e)} (β.at base w.heap.size cap) (bm H ([]++newAt base [.arr k 0 sz a]))/\
 aB P {w.drew with heap:=w.heap.push (.cells cells e)} ad (β.at base w.heap.size cap) (bm H ([]++newAt base [.arr k 0 sz a])) (.sl base 0 sz 0 a.length) (.slice (some ⟨w.heap.size,0,none⟩) a.length cap)/\
 aE (aJ (bm H ([]++newAt base [.arr k 0 sz a]))) (.sl base 0 sz 0 a.length):=by
 have l:bV P w.drew ad β H ah:=bV.zn (w:=w) (w':=w.drew) rfl j;have n:Row P w.drew ad β H sz a b:=Row.mono (w:=w) (w':=w.drew) (fun _ x=>x) (fun _ _=>rfl) (cz.refl _ _) d m;obtain⟨q1,q⟩:=Cy (T:=e) (k:=k) l c g i n d hc o h f p;rw[mn];exact⟨bZ.drew (w1:=w.drew) rfl ⟨rfl,rfl⟩ q1,q,⟨_,hA (hz.1 c).1,iz _⟩⟩
theorem LY{b:Nat}{k k':AK}{aA ai:Nat}{g es':List AV}{aq cap:Nat}(e:H[b]?=some (.arr k aA ai g)):cz β H (β.at b aq cap) (H.set b (.arr k' (aA+1) ai es')):=by
 have i:b<H.length:=(hz.1 e).1;have c:∀x,x≠b->(H.set b (.arr k' (aA+1) ai es'))[x]?=H[x]?:=fun x hx=>hU (Ne.symm hx);have a:(H.set b (.arr k' (aA+1) ai es'))[b]?=some (.arr k' (aA+1) ai es'):=hA i;refine⟨?_,?_,?_,?_,?_⟩
 ·rintro x _ ⟨fz,t,h⟩
  by_cases hx:x=b
  ·subst hx;rw[a]at h;cases h
  ·rw[c x hx]at h;exact⟨⟨fz,t,h⟩,by simp[Bd.at,hx]⟩
 ·rintro x _ ⟨fz,t,h⟩
  by_cases hx:x=b
  ·subst hx;rw[a]at h;cases h
  ·rw[c x hx]at h;exact⟨⟨fz,t,h⟩,by simp[Bd.at,hx]⟩
 ·rintro x _ ⟨fz,t,h⟩
  by_cases hx:x=b
  ·subst hx;rw[a]at h;cases h
  ·rw[c x hx]at h;exact⟨⟨fz,t,h⟩,by simp[Bd.at,hx]⟩
 ·intro x v z l f hi h;unfold fI at h
  by_cases hx:x=b
  ·subst hx;rw[a]at h;cases h;obtain⟨m,d,j⟩:=hi;simp only at d;rw[e]at d;cases d;simp only[Obj.has]at j;omega
  ·rw[c x hx]at h;exact⟨l,f,h,iz _,Iff.rfl,fun _=>by simp[Bd.at,hx]⟩
 ·rintro x _ ⟨L,h⟩
  by_cases hx:x=b
  ·subst hx;rw[a]at h;cases h
  ·rw[c x hx]at h;exact⟨⟨L,h⟩,by simp[Bd.at,hx]⟩
theorem Bd.XI(β:Bd)(b:Nat):β.at b (β.aq b) (β.cap b)=β:=by
 cases β with
 |mk aq cap=>
  simp only[Bd.at,Bd.mk.injEq];constructor
  ·funext x;split
   ·rename_i h;rw[h]
   ·rfl
  ·funext x;split
   ·rename_i h;rw[h]
   ·rfl
theorem Cl{α:Type}(A M Z X:List α):(A++M++Z).take A.length++X++(A++M++Z).drop (A.length+M.length)=A++X++Z:=by
 rw[hG A M Z,List.take_left,<-hG,<-hC,List.drop_left]
theorem Xl{c:Call}{s x:dp}(Y:o.op= .call c)(hc:c.callee= .builtin .append)(W:c.args.toList=[s,x])(bT:c.argTypes.size=2){H0:aj}{K:aR->Prop}
 (h:ow P (c.argTypes.getD 0 0) (c.argTypes.getD 1 0) H0 (ρ s) (ρ x) K):
 ∃e,K e/\bB P o ρ H0.length e/\(∀p∈e.al,H0[p.1]?=some p.2)/\(∀p∈e.aL,p.1<H0.length/\p.2≠.hole):=by
 obtain⟨T,X,S⟩:∃T X,c.argTypes=#[T,X]:=by
  obtain⟨l,I⟩:∃l,l=c.argTypes.toList:=⟨_,rfl⟩
  have af:l.length=2:=by rw[I];simpa using bT
  match l,af with
  |[a,b],_=>exact⟨a,b,by apply b5;simp[<-I]⟩
 have B:s∈o.op.operands/\x∈o.op.operands:=by
  have bF:c.args=#[s,x]:=by apply b5;simpa using W
  rw[Y];simp[gt,Call.operands,hc,bF]
 have e1:c.argTypes.getD 0 0=T:=by rw[S];rfl
 have e2:c.argTypes.getD 1 0=X:=by rw[S];rfl
 rw[e1,e2]at h;unfold ow at h
 split at h
 case h_2=>exact h.elim
 rename_i sz g F hx;obtain⟨ag,a9,am,h⟩:=h;obtain⟨e,i,F⟩:=kS F;obtain⟨z,a9⟩:=jP.1 a9;obtain⟨b3,b0,z1,z2,z3,z4⟩:=rk a9;rw[F.qS]at z1 z4;rw[F.info]at z1;cases z1;have aX:b0.cells.size=sz:=by
  obtain⟨_,i2,k1,k2⟩:=yM (v:=.p z) (w:=default) (ad:=fun _=>False) (β:=⟨id,id⟩) (H:=[]) z4 (by simp only[bu];exact z3 _ _);rw[F.info]at k1;cases k1;have:=F.size;simp at k2;omega
 have bb:∀{al:List (Nat×Obj)},(∀p∈dJ H0 (ρ x),p∈al)->(∀p∈al,H0[p.1]?=some p.2)->g=[]->(∀(H:aj)(w:dy)(ad ah:Nat->Prop)(β:Bd)(v:dl),bV P w ad β H ah->(∀p∈al,H[p.1]?=some p.2)->aB P w ad β H (ρ s) v->∃p a b,v= .slice p a b/\a<=b)->
  bB P o ρ H0.length {v:=ρ s,al}:=by
  intro al bR av bU bP;subst bU;refine bB.same fun H w ad ah β au f j al=>?_;obtain⟨p,a,b,u,bE⟩:=bP H w ad ah β _ f al (j s B.1).1;obtain⟨E,C,af,bA,bC⟩:=wT (pG hx (fun p u=>al p (bR p u))) f (j x B.2).1 (j x B.2).2 am;have bi:=bC w rfl 0 (iz _);simp only[List.take_zero,ih]at bi;have R:=VT F ag o.type (p:=p) (sLen:=a) (sCap:=b) _ bA bi bE;rw[<-S,<-u]at R;exact⟨_,yV Y hc W R,by rw[u];exact u▸(j s B.1).1,(j s B.1).2⟩
 have ba:∀l:List AV,l.isEmpty=true->l=[]:=fun l h=>by simpa using h
 split at h
 ·
  rename_i hs
  split at h
  ·rename_i G;refine⟨_,h,?_,n6,by simp⟩;exact bb (fun p u=>u) n6 (ba _ G) (fun H w ad ah β v _ _ A=>by rw[hs]at A;simp only[aB,aD]at A;exact⟨_,_,_,A,iz _⟩)
  ·rename_i G;obtain⟨bo,h⟩:=h;refine⟨_,h,?_,n6,by simp⟩;intro H w ad ah β au f j al aH;have ak:H[H0.length]?=some .hole:=by simpa using aH 0 (by simp)
   have Q:=(j s B.1).1;rw[hs]at Q;simp only[aB,aD]at Q;have bq:0<g.length:=hW.2 (by simpa using G);obtain⟨cap,cells,E,D,ab,an,ac,ao,ap,ar⟩:=yK Y hc W S F ag z2 aX f Q (olds:=[]) (ocss:=[]) rfl (iN.2 rfl) (by simp[aS]) (by simp[e7])
    (pG hx al) (j x B.2).1 (j x B.2).2 am (by omega) (by omega)
   obtain⟨q1,Z,aa⟩:=C3 (base:=H0.length) (k:=gk P T) (e:=e) (_o':=.hole) f ak uP.1 (fun q=>G (by simpa using q.2)) an ac ao ap ar (fun h=>(uP.2 h).elim) (E5 F.qS);simp only[ii,i9]at ab q1 Z aa;exact⟨_,_,_,_,ad,ab,.inl rfl,q1,Z,aa⟩
 ·
  rename_i full d hs;obtain⟨bG,h⟩:=h
  have Q:∀{H:aj}{w:dy}{ad:Nat->Prop}{β:Bd}{v:dl},aB P w ad β H (ρ s) v->∃p c N,v= .slice p d.length c/\d.length<=c/\(full=true->c=d.length)/\Row P w ad β H sz (d.map .p) N/\
   (∀w':dy,w'.heap=w.heap->(e7 sz d.length v).run P w'=.ok N.flatten.toArray w'):=by
   intro H w ad β v A;rw[hs]at A;simp only[aB,aD]at A;obtain⟨aq,off,cap,ai,E,v1,v2,v3,v4,v5,sp,bQ,rfl⟩:=A;rcases bQ with rfl|rfl
   case inr=>
    obtain rfl:d=[]:=hF.1 (by omega);exact⟨_,_,[],rfl,by simp,by simp,iN.2 rfl,fun w' _=>Ce⟩
   have aN:Row P w ad β H ai (d.map .p) E:=mE.2 v1;have bv:Row P w ad β H sz (d.map .p) E:=by
    by_cases bp:d.map AV.p=[]
    ·rw[bp]at aN⊢;rw[iN]at aN⊢;exact aN
    ·rw[<-uf aN bG bp];exact aN
   refine⟨_,_,E,rfl,v5,v4,bv,fun w' a8=>vO (by have:=(gp bv).2;simpa using this) (v3.same (by rw[a8]))⟩
  split at h
  ·rename_i G;refine⟨_,h,?_,n6,by simp⟩;exact bb (fun p u=>u) n6 (ba _ G) (fun H w ad ah β v _ _ A=>by obtain⟨p,c,_,C,af,_⟩:=Q A;exact⟨p,_,c,C,af⟩)
  ·rename_i G;obtain⟨hf,bo,h⟩:=h;refine⟨_,h,?_,n6,by simp⟩;intro H w ad ah β au f j al aH;have ak:H[H0.length]?=some .hole:=by simpa using aH 0 (by simp)
   have bq:0<g.length:=hW.2 (by simpa using G);obtain⟨p,cp,N,s1,s2,bX,bY,bz⟩:=Q (j s B.1).1;rw[s1]at bz;obtain⟨cap,cells,E,D,ab,an,ac,ao,ap,ar⟩:=yK Y hc W S F ag z2 aX f s1 (olds:=d.map .p) (by simp) bY (ju _ _) (bz w.drew rfl)
    (pG hx al) (j x B.2).1 (j x B.2).2 am (by have:=bX hf;omega) (by omega)
   obtain⟨q1,Z,aa⟩:=C3 (base:=H0.length) (k:=gk P T) (e:=e) (_o':=.hole) f ak uP.1 (fun q=>G (by have:=q.2;simp at this;simp[this.2])) an ac ao ap ar (fun h=>(uP.2 h).elim) (E5 F.qS);simp only[hC,List.length_map]at Z aa;exact⟨_,_,_,_,ad,ab,.inl rfl,q1,Z,aa⟩
 ·
  rename_i b aA ai off len hs
  split at h
  case h_2=>exact h.elim
  rename_i k b4 b1 d a6;obtain⟨rfl,rfl,rfl,hlen,h⟩:=h;have av:∀p∈(b,Obj.arr k aA ai d)::dJ H0 (ρ x),H0[p.1]?=some p.2:=by
   intro p u;rcases hP.1 u with rfl|u
   ·exact a6
   ·exact n6 p u
  have Q:∀{H:aj}{w:dy}{ad ah:Nat->Prop}{β:Bd}{v:dl},bV P w ad β H ah->H[b]?=some (.arr k aA ai d)->aB P w ad β H (ρ s) v->
   (di k d/\v=.slice none 0 0/\len=0)\/(¬di k d/\v=.slice (some ⟨β.aq b,off*ai,none⟩) len (β.cap b-off)/\
   ∃cs T E D,w.heap[β.aq b]?=some (.cells cs T (0,0))/\Row P w ad β H ai d E/\cs.toList=E.flatten++D/\
   cs.size=β.cap b*ai/\d.length<=β.cap b/\(k=.exact->β.cap b=d.length)/\cJ ad β ah (k== .frozen) b/\(k=.bytes->T=Gl.u8)):=by
   intro H w ad ah β v f t A;rw[hs]at A;simp only[aB,bO,bS]at A;obtain⟨_,v2,v3⟩:=A.2 k d t
   by_cases q:di k d
   ·exact .inl ⟨q,v2 q,by have:=q.2;subst this;simp at hlen;omega⟩
   ·rcases f.cM b _ t with hold|⟨cs,O,E,D,k1,k2,k3,k4,k5,k6,k7,k8⟩
    ·exact(q hold).elim
    ·exact .inr ⟨q,v3 q,cs,O,E,D,k1,k2,k3,k4,k5,k6,k7,k8.2⟩
  have holds:∀{H:aj}{w:dy}{ad:Nat->Prop}{β:Bd}{cs:Array dl}{O:dq}{E:List (List dl)}{D:List dl},w.heap[β.aq b]?=some (.cells cs O (0,0))->Row P w ad β H ai d E->cs.toList=E.flatten++D->
   ∃N,Row P w ad β H ai ((d.drop off).take len) N/\∀(w':dy)(n c:Nat),w'.heap=w.heap->(e7 ai len (.slice (some ⟨β.aq b,off*ai,none⟩) n c)).run P w'=.ok N.flatten.toArray w':=by
   intro H w ad β cs O E D k1 k2 k3;obtain⟨a,m,z,g1,g2,g3,g4,g5⟩:=kq k2 off len hlen;refine⟨m,g2,fun w' n c a8=>vO (by have:=(gp g2).2;rw[this];congr 1;simp;omega) ?_⟩;have:=mw k1 (pre:=a.flatten) (xs:=m.flatten) (post:=z.flatten++D) (by rw[k3,g1];simp);rw[g3]at this;exact this.same (by rw[a8])
  split at h
  ·rename_i G;refine⟨_,h,?_,av,by simp⟩;refine bb (fun p u=>hJ _ u) av (ba _ G) (fun H w ad ah β v f al A=>?_);rcases Q f (al (b,_) (by simp)) A with⟨_,C,_⟩|⟨q,C,cs,O,E,D,af⟩
   ·exact⟨_,_,_,C,iz _⟩
   ·exact⟨_,_,_,C,by omega⟩
  ·rename_i G;have bq:0<g.length:=hW.2 (by simpa using G);obtain⟨bo,h⟩:=h
   split at h
   ·exact h.elim
   ·
    split at h
    ·rename_i ax;refine⟨_,h,?_,av,by simpa using(hz.1 a6).1⟩;intro H w ad ah β au f j al _;have t:H[b]?=some (.arr .exact aA ai d):=al (b,_) (by simp);rcases Q f t (j s B.1).1 with⟨q,_⟩|⟨q,C,cs,O,E,D,k1,k2,k3,k4,k5,k6,k7,k8⟩
     ·cases q.1
     obtain⟨M,V,bc,bd,be⟩:=wT (pG hx (fun p u=>al p (hJ _ u))) f (j x B.2).1 (j x B.2).2 am;have aQ:=be w rfl g.length (iz _);rw[hR (by have:=(gp V).1;omega)]at aQ;have bl:=k6 rfl;obtain⟨a,m,ae,g1,g2,g3,g4,g5⟩:=kq k2 (off+len) g.length ax;have ay:=(gp V).2;have aw:m.flatten.length=g.length*ai:=by have:=(gp g2).2;rw[this];congr 1;simp;omega
     have aT:cs.toList=a.flatten++m.flatten++(ae.flatten++D):=by rw[k3,g1];simp
     have bk:a.flatten.length=off*ai+len*ai:=by rw[g3,i3]
     have bw:cs.size=a.flatten.length+m.flatten.length+(ae.flatten++D).length:=by
      have:=congrArg hT aT;simp only[hC,cx]at this;rw[this,hC]
     have R:=JJ F ag o.type (sLen:=len) (sCap:=β.cap b-off) _ bd k1 aQ (xb V) (by omega) (by rw[ay,bw,bk,aw];exact Nat.le_add_right _ _);rw[<-S,<-C]at R;have aP:cs.toList.take (off*ai+len*ai)++M.flatten++cs.toList.drop (off*ai+len*ai+M.flatten.length)=a.flatten++M.flatten++(ae.flatten++D):=by
      rw[aT,<-bk,ay,<-aw];exact Cl _ _ _ _
     rw[aP]at R;have aM:cz β H β (H.set b (.arr .exact aA ai (d.take (off+len)++g++d.drop (off+len+g.length)))):=pP t (.inr (.inl ⟨_,_,_,_,_,rfl,rfl,by simp;omega⟩));have aG:¬ad (β.aq b)/\¬ah (β.aq b):=by
      unfold cJ at k7;rw[if_neg (by simp)]at k7;exact k7
     have a7:∀J,ad J->(w.setRow (β.aq b) (a.flatten++M.flatten++(ae.flatten++D)).toArray).heap[J]?=w.heap[J]?:=fun J a3=>eb w _ J _ (fun a2=>aG.1 (a2▸a3));have hrefs:aS (aJ H) (d.take (off+len)++g++d.drop (off+len+g.length)):=by
      have br:=c7.1 (f.refs b _ t);refine kn (kn ?_ bc) ?_
      ·rw[c7];exact fun v A=>br v (hH A)
      ·rw[c7];exact fun v A=>br v (hM A)
     have aU:=mF t (o:=.arr .exact aA ai (d.take (off+len)++g++d.drop (off+len+g.length))) (fun _ h=>h);have a4:(d.take (off+len)++g++d.drop (off+len+g.length)).length=d.length:=by simp;omega
     have aL:=ri f t q (o':=.arr .exact aA ai (d.take (off+len)++g++d.drop (off+len+g.length))) (fun U=>by cases U.1) (fun _ h=>h) k1 (new:=(a.flatten++M.flatten++(ae.flatten++D)).toArray) aG aM
      (.inr ⟨_,O,a++M++ae,D,ed w _ _ _ O _ k1,by
       refine Row.mono (fun _ x=>x) a7 aM hrefs (lR.2 ⟨_,_,rfl,lR.2 ⟨_,_,rfl,g4,V⟩,g5⟩),by simp,by
       rw[<-k4,bw];simp only[h0,hC,ay,aw],by rw[a4];exact k5,fun _=>by rw[a4];exact bl,k7,(fun aV=>by cases aV),k8⟩) (aS.mono aU _ hrefs)
     refine⟨_,_,_,β,ad,yV Y hc W R,.inl rfl,aL,?_,?_⟩
     ·simp only[aB,bO,bS,bm,newAt,hN];refine⟨by simp[ht],fun J bg I=>?_⟩;unfold fI at I;rw[hA (hz.1 t).1]at I;cases I;exact⟨by rw[a4];omega,(fun U=>by cases U.1),fun _=>trivial⟩
     ·simp only[aE];exact⟨_,hA (hz.1 t).1,iz _⟩
    ·rename_i ax;refine⟨_,h,?_,av,by simp⟩;intro H w ad ah β au f j al aH;have ak:H[H0.length]?=some .hole:=by simpa using aH 0 (by simp)
     have t:H[b]?=some (.arr .exact aA ai d):=al (b,_) (by simp);rcases Q f t (j s B.1).1 with⟨q,_⟩|⟨q,C,cs,O,E,D,k1,k2,k3,k4,k5,k6,k7,k8⟩
     ·cases q.1
     have bl:=k6 rfl;obtain⟨N,aO,aY⟩:=holds k1 k2 k3;have bn:((d.drop off).take len).length=len:=by simp;omega
     obtain⟨cap,cells,bf,bx,ab,an,ac,ao,ap,ar⟩:=yK Y hc W S F ag z2 aX f C (olds:=(d.drop off).take len) bn aO
      (by rw[c7];exact fun v A=>c7.1 (f.refs b _ t) v (hM (hH A))) (aY w.drew _ _ rfl)
      (pG hx (fun p u=>al p (hJ _ u))) (j x B.2).1 (j x B.2).2 am (by omega) (by omega)
     obtain⟨q1,Z,aa⟩:=C3 (base:=H0.length) (k:=gk P T) (e:=e) (_o':=.hole) f ak uP.1 (fun q=>G (by have:=q.2;simp at this;simp[this.2])) an ac ao ap ar (fun h=>(uP.2 h).elim) (E5 F.qS);rw[hC,bn]at Z aa;exact⟨_,_,_,_,ad,ab,.inl rfl,q1,Z,aa⟩
   ·
    rename_i bI bJ;obtain⟨rfl,bK,h⟩:=h;have aI:k≠.frozen:=fun e=>bI e;have aV:k≠.exact:=fun e=>bJ e;have b2:(k==AK.frozen)=false:=by simpa using aI
    refine⟨_,h,?_,av,by simpa using(hz.1 a6).1⟩;intro H w ad ah β au f j al _;have t:H[b]?=some (.arr k aA ai d):=al (b,_) (by simp);have az:b<H.length:=(hz.1 t).1;have aW:(d.take len).length=len:=by simp;omega
    have bt:aS (aJ H) (d.take len):=by rw[c7];exact fun v A=>c7.1 (f.refs b _ t) v (hH A)
    have a5:¬di k (d.take len++g):=fun U=>G (by have:=U.2;simp at this;simp[this.2]);have aU:=mF t (o:=.arr k (aA+1) ai (d.take len++g)) (fun v h=>by simp only[Obj.has]at h⊢;omega)
    have bh:∀(p:Option Addr)(a0:Nat)(N:List (List dl)),au s= .slice p len a0->Row P w ad β H ai (d.take len) N->(e7 ai len (.slice p len a0)).run P w.drew= .ok N.flatten.toArray w.drew->a0<len+g.length->
     ∃n a1 w' aK aF,(dx au o).run P w=.ok n w'/\(n=.value a1\/n=.skip/\a1=undef)/\
      bZ P ah ad w β H aF w' aK (H.set b (.arr k (aA+1) ai (d.take len++g)))/\aB P w' aF aK (H.set b (.arr k (aA+1) ai (d.take len++g))) (.sl b (aA+1) ai 0 (len+g.length)) a1/\
      aE (aJ (H.set b (.arr k (aA+1) ai (d.take len++g)))) (.sl b (aA+1) ai 0 (len+g.length)):=by
     intro p a0 N C bM bL bH;obtain⟨cap,cells,bf,bx,ab,an,ac,ao,ap,ar⟩:=yK Y hc W S F ag z2 aX f C (olds:=d.take len) aW bM bt bL
      (pG hx (fun p u=>al p (hJ _ u))) (j x B.2).1 (j x B.2).2 am bH (by omega)
     have aM:=LY (β:=β) (k':=k) (es':=d.take len++g) (aq:=w.heap.size) (cap:=cap) t;have aL:bZ P ah ad w β H ad {w.drew with heap:=w.heap.push (.cells cells e)} (β.at b w.heap.size cap) (H.set b (.arr k (aA+1) ai (d.take len++g))):=by
      refine bZ.set f az (fun y bW=>by simp[Bd.at,bW]) (fun _ y=>y) (fun _ y=>.inl y) (fun k hk=>by have:=f.bQ k hk;simp;omega) (by simp)
       (fun k _ hk=>by simp[cy,js hk]) (fun _=>.inl (by simp[Bd.at])) aM
       (.inr ⟨cells,e,bf,bx,by simp[Bd.at],Row.mono (fun _ y=>y) (fun k hk=>by have:=f.bQ k hk;simp[cy,js this]) aM ac an,ao,by simp[Bd.at,ap],by simpa[Bd.at]using ar,(fun aC=>(aV aC).elim),by
        unfold cJ;rw[if_neg (by simpa using aI)];simp only[Bd.at,if_true];exact⟨fun h=>i0 _ (f.bQ _ h),fun h=>i0 _ (f.eC _ h)⟩,(fun aC=>(aI aC).elim),fun ak=>F.qS▸bK ak⟩)
       (aS.mono aU _ ac) (fun aO v C af=>by rw[t]at C;cases C;simp only[Obj.has]at af⊢;omega) (fun L bj=>by rw[t]at bj;cases bj)
     refine⟨_,_,_,_,ad,ab,.inl rfl,aL,?_,?_⟩
     ·simp only[aB,bO,bS];refine⟨by simp[ht],fun J bg I=>?_⟩;unfold fI at I;rw[hA az]at I;cases I;exact⟨by rw[hC,aW];omega,fun U=>(a5 U).elim,fun _=>by simp[Bd.at]⟩
     ·simp only[aE];exact⟨_,hA az,iz _⟩
    simp only[bm,newAt,hN];rcases Q f t (j s B.1).1 with⟨q,C,rfl⟩|⟨q,C,cs,O,E,D,k1,k2,k3,k4,k5,k6,k7,k8⟩
    ·exact bh none 0 [] C (by simp[iN]) (by simp[e7]) (by omega)
    ·simp only[i8,jp]at C
     by_cases ax:len+g.length<=β.cap b
     ·
      obtain⟨M,V,bc,bd,be⟩:=wT (pG hx (fun p u=>al p (hJ _ u))) f (j x B.2).1 (j x B.2).2 am;have aQ:=be w rfl g.length (iz _);rw[hR (by have:=(gp V).1;omega)]at aQ;obtain⟨a,m,ae,g1,g2,g3,g4,g5⟩:=kq k2 0 len hlen;have bD:a=[]:=by have:=(gp g4).1;simpa using this
      subst bD;have ay:=(gp V).2;have aw:m.flatten.length=len*ai:=by have:=(gp g2).2;rw[this];congr 1
      have aT:cs.toList=m.flatten++(ae.flatten++D):=by rw[k3,g1];simp
      have bN:=Nat.mul_le_mul_right ai ax;rw[i3]at bN;have R:=JJ F ag o.type (off:=0) (sLen:=len) (sCap:=β.cap b) _ bd k1 aQ (xb V) ax (by rw[ay,k4];omega);rw[<-S,<-C]at R;obtain⟨aZ,bs⟩:∃r,r=cs.toList.drop (len*ai+M.flatten.length):=⟨_,rfl⟩
      have aP:cs.toList.take (0+len*ai)++M.flatten++cs.toList.drop (0+len*ai+M.flatten.length)=(m++M).flatten++aZ:=by
       rw[i9,<-bs];congr 1;rw[aT,<-aw];simp
      rw[aP]at R;have aG:¬ad (β.aq b)/\¬ah (β.aq b):=by
       unfold cJ at k7;rw[if_neg (by simpa using aI)]at k7;exact k7
      have aM:cz β H β (H.set b (.arr k (aA+1) ai (d.take len++g))):=by
       have:=LY (β:=β) (k':=k) (es':=d.take len++g) (aq:=β.aq b) (cap:=β.cap b) t
       rwa [Bd.XI]at this
      have a7:∀J,ad J->(w.setRow (β.aq b) ((m++M).flatten++aZ).toArray).heap[J]?=w.heap[J]?:=fun J a3=>eb w _ J _ (fun a2=>aG.1 (a2▸a3));have hrefs:aS (aJ H) (d.take len++g):=kn bt bc;have aL:=ri f t q (o':=.arr k (aA+1) ai (d.take len++g)) a5 (fun v h=>by simp only[Obj.has]at h⊢;omega) k1 (new:=((m++M).flatten++aZ).toArray) aG aM
       (.inr ⟨_,O,m++M,aZ,ed w _ _ _ O _ k1,by
        refine Row.mono (fun _ x=>x) a7 aM hrefs (lR.2 ⟨_,_,rfl,?_,V⟩);simpa using g2,by simp,by
        rw[<-k4];simp only[h0,hC,hX,ay,aw,bs,List.length_drop,cx,k4];omega,by rw[hC,aW];exact ax,(fun aC=>(aV aC).elim),k7,(fun h=>(aI h).elim),k8⟩) (aS.mono aU _ hrefs)
      refine⟨_,_,_,β,ad,yV Y hc W R,.inl rfl,aL,?_,?_⟩
      ·simp only[aB,bO,bS];refine⟨by simp[ht],fun J bg I=>?_⟩;unfold fI at I;rw[hA az]at I;cases I;exact⟨by rw[hC,aW];omega,fun U=>(a5 U).elim,fun _=>by simp⟩
      ·simp only[aE];exact⟨_,hA az,iz _⟩
     ·obtain⟨N,aO,aY⟩:=holds k1 k2 k3;simp only[List.drop_zero,i8]at aO aY;exact bh _ _ N C aO (aY w.drew _ _ rfl) (by omega)
 ·exact h.elim
end
section
variable{P:dz}{w:dy}{ad ah:Nat->Prop}{β:Bd}{H:aj}
variable{o:Oper}{ρ:dp->AV}{base:Nat}
def jv(bs:ByteArray):List Nat:=bs.data.toList.map (·.toNat)
theorem Ch:∀{a b:List UInt8},a.map (·.toNat)=b.map (·.toNat)->a=b
 |[],[],_=>rfl
 |[],_::_,h=>by simp at h
 |_::_,[],h=>by simp at h
 |x::a,y::b,h=>by
  simp at h;rw[UInt8.toNat_inj.1 h.1,Ch h.2]
theorem bytes_beq(a b:ByteArray):(a.toList==b.toList)=(jv a==jv b):=by
 rw[fv,fv];unfold jv
 by_cases h:a.data.toList=b.data.toList
 ·simp[h]
 ·have d:¬(a.data.toList.map (·.toNat)=b.data.toList.map (·.toNat)):=fun c=>h (Ch c)
  rw[beq_eq_false_iff_ne.2 h,beq_eq_false_iff_ne.2 d]
theorem Jg:∀a b:List UInt8,g0 a b=jG (a.map (·.toNat)) (b.map (·.toNat))
 |[],[]=>rfl
 |_::_,[]=>rfl
 |[],_::_=>rfl
 |x::a,y::b=>by
  simp only[g0,hQ,jG,Jg a b];congr 1
  ·congr 1
   by_cases h:x=y
   ·simp[h]
   ·have:¬x.toNat=y.toNat:=fun c=>h (UInt8.toNat_inj.1 c);rw[beq_eq_false_iff_ne.2 h,beq_eq_false_iff_ne.2 this]
theorem aKf{c:e6}{T j:dq}{x y:dp}{a b:List Nat}{K:PV->Prop}(g:o.op= .binOp c T x y j)(hx:ρ x= .p (.str a))(u:ρ y= .p (.str b))
 (h:qq c a b K)(al:List (Nat×Obj)):∃v,K v/\bB P o ρ base {v:=.p v,al}:=by
 have key:∀v,K v->(∀(w:dy)(ad:Nat->Prop)(s t:ByteArray),a=jv s->b=jv t->∃r,(g9 c s t).run P w=.ok r w/\aD P w ad v r)->∃v,K v/\bB P o ρ base {v:=.p v,al}:=by
  intro v q n;refine⟨v,q,bB.same fun H w ad ah β C B i _=>?_⟩;have e:=(i x (by simp[g,gt])).1;have f:=(i y (by simp[g,gt])).1;rw[hx]at e;rw[u]at f;simp only[aB,Od]at e f;obtain⟨s,e1,e2⟩:=e;obtain⟨t,e3,e4⟩:=f;obtain⟨r,z,A⟩:=n w ad s t e2 e4;refine⟨r,?_,by simpa only[aB]using A,by simp[aE]⟩;simp only[dx,g,e1,e3];refine fp ?_;have l:(eqGuard c T x y (.string s) (.string t)).run P w=.ok () w:=by
   unfold eqGuard
   split<;>simp
  have k:(binOp c T (.string s) (.string t)).run P w=.ok r w:=by
   cases c<;>first|(simp[qq]at h;done)|exact z
  simp[l,k]
 have m:∀s t:ByteArray,a=jv s->b=jv t->g0 s.toList t.toList=jG a b/\(s.toList==t.toList)=(a==b):=by
  intro s t hs d;rw[bytes_beq,<-hs,<-d,Jg,fv,fv];exact⟨by rw[hs,d];rfl,rfl⟩
 cases c<;>simp only[qq]at h
 case add=>
  refine key _ h.2 fun w ad s t hs d=>⟨.string (s++t),run_string_add_sum w s t ?_,?_⟩
  ·have e:a.length=s.size:=by rw[hs];simp[jv]
   have f:b.length=t.size:=by rw[d];simp[jv]
   omega
  ·rw[Od];exact⟨_,rfl,by rw[hs,d];simp[jv,ByteArray.data_append]⟩
 case eql|neq|lss|leq|gtr|geq=>
  refine key _ h fun w ad s t hs d=>?_;obtain⟨e1,e2⟩:=m s t hs d;exact⟨_,by simp only[g9,e1,e2];rfl,by simp[aD]⟩
theorem UK{T:dq}(h:rW P T=true):P.underlying T=some .bool:=by
 unfold rW at h
 split at h
 ·assumption
 ·simp at h
theorem I7{T:dq}{a b:dl}{r:Bool}{w:dy}(h:(gy T a b).run P w= .ok r w)(d:(∃x,a= .bool x)\/(∃x,a= .agg x)\/(∃p n c,a= .slice p n c)\/(∃m,a= .map m)\/a= .nilFunc\/(∃f x y,a= .func f x y)\/(∃p,a= .pointer p)\/a= .nilIface):
 (binOp .eql T a b).run P w=.ok (.bool r) w/\(binOp .neq T a b).run P w=.ok (.bool !r) w:=by
 rcases d with⟨x,rfl⟩|⟨x,rfl⟩|⟨p,n,c,rfl⟩|⟨m,rfl⟩|rfl|⟨f,x,y,rfl⟩|⟨p,rfl⟩|rfl
 all_goals (constructor<;>(unfold binOp;simp[h]))
def jQ.isAgg:jQ->Bool
 | .agg _=>true
 |_=>false
theorem XN{T:dq}{t:jQ}(hk:kindOf P T=t)(a:t≠.bad)(w:dy):(isAgg T).run P w=.ok t.isAgg w:=by
 unfold kindOf at hk;cases hu:P.underlying T with
 |none=>rw[hu]at hk;simp at hk;exact(a hk.symm).elim
 |some d=>
  rw[hu]at hk;simp only[isAgg,hl,dg hu,hj];cases d<;>simp only at hk<;>(split at hk<;>first|(subst hk;rfl)|exact(a hk.symm).elim)
theorem wM{F:dq}{v:PV}{pre c post:List dl}{cs:Array dl}(hk:kindOf P F=aI v)(b:aU P w ad v c)(e:cs.toList=pre++c++post):
 ∃x,(part F cs pre.length).run P w=.ok x w/\aD P w ad v x:=by
 obtain⟨j,i,f,g⟩:=yM (v:=.p v) (β:=⟨id,id⟩) (H:=[]) (w:=w) (ad:=ad) hk (by simpa only[bu]using b);have d:=(pO b).2;have a:=XN hk d w;cases hs:aI v with
 |bad=>exact(d hs).elim
 |leaf=>
  rw[hs]at a;obtain⟨x,rfl,hx⟩:=(ug hs c).1 b;refine⟨x,?_,hx⟩;have:cs[pre.length]?=some x:=by rw[<-cb,e];simp
  simp[part,a,this,jQ.isAgg]
 |agg u=>
  rw[hs]at a;refine⟨.agg c.toArray,?_,(xc hs c).1 b⟩;have h:(sizeOf F).run P w=.ok c.length w:=by simp[sizeOf,typeInfo,f,g]
  have:cs.extract pre.length (pre.length+c.length)=c.toArray:=by
   apply b5;rw[Array.toList_extract,e];simp[List.extract_eq_take_drop]
  simp[part,a,h,this,jQ.isAgg]
theorem C1{n:Nat}{b:List Nat}{v:PV}{vs:List PV}{a:List (List dl)}(h:bk P w ad (n::b) (v::vs) a):∃c cs,a=c::cs/\aU P w ad v c/\c.length=n/\bk P w ad b vs cs:=by
 simpa only[bk]using h
theorem Je{eqF:dq->PV->PV->Option Bool}{d:Nat}(B:∀F a b r,eqF F a b=some r->kindOf P F=aI a->kindOf P F=aI b->∀x y,aD P w ad a x->aD P w ad b y->(gx d F x y).run P w= .ok r w){X Y:Array dl}:
 ∀(fs:List eP)(l:List Nat)(j k:List PV)(r:Bool)(h m:List dl)(o p:List (List dl)),ka P eqF (fs.map (·.type)) j k=some r->fs.all (fun f=>f.name != "_")=true->
 (∀(i:Nat)(f:eP),fs[i]?=some f->f.offset=h.length+(l.take i).sum)->bk P w ad l j o->bk P w ad l k p->h.length=m.length->
 X.toList=h++o.flatten->Y.toList=m++p.flatten->(g7 d X Y fs).run P w=.ok r w
 |[],l,j,k,r,h,m,o,p,e,_,_,_,_,_,_,_=>by
  cases j<;>cases k<;>simp[ka]at e;subst e;simp[g7]
 |f::fs,l,j,k,r,h,m,o,p,e,q,v,hx,K,A,t,hY=>by
  cases j with
  |nil=>simp[ka]at e
  |cons a j=>
   cases k with
   |nil=>simp[ka]at e
   |cons b k=>
    cases l with
    |nil=>simp[bk]at hx
    |cons n l=>
     simp only[hQ,ka]at e
     split at e
     case isFalse=>simp at e
     rename_i hk
     split at e
     case h_2=>simp at e
     rename_i M N D E;simp at e;subst e;obtain⟨c,cs,rfl,hc,u,J⟩:=C1 hx;obtain⟨c',s,rfl,G,H,L⟩:=C1 K;simp only[List.all_cons,db,bne_iff_ne]at q;have z:f.offset=h.length:=by simpa using v 0 f (by simp)
     obtain⟨x,C,Q⟩:=wM hk.1 hc (pre:=h) (post:=cs.flatten) (cs:=X) (by rw[t];simp);obtain⟨y,y1,y2⟩:=wM hk.2 G (pre:=m) (post:=s.flatten) (cs:=Y) (by rw[hY];simp);have e1:=B _ _ _ _ D hk.1 hk.2 x y Q y2;rw[<-z]at C;rw[<-A,<-z]at y1;have O:=Je B fs l j k N (h++c) (m++c') cs s E q.2 (by
      intro i g I;have:=v (i+1) g (by simpa using I);rw[this,List.take_succ_cons,List.sum_cons,hC,u];omega) J L (by simp[A,u,H]) (by rw[t];simp) (by rw[hY];simp)
     simp only[g7,q.1,ne_eq,not_false_eq_true,if_true,hl,C,y1,e1,hj];cases M with
     |false=>simp
     |true=>simpa using O
theorem C9:∀(n:Nat)(T:dq)(v v':PV)(r:Bool),gh P n T v v'=some r->∀x y,aD P w ad v x->aD P w ad v' y->∀d,n<=d->(gx d T x y).run P w=.ok r w
 |0,_,_,_,_,h,_,_,_,_,_,_=>by simp[gh]at h
 |n+1,T,v,v',r,h,x,y,hx,g,d,J=>by
  obtain⟨d,rfl⟩:∃e,d=e+1:=⟨d-1,by omega⟩
  unfold gh at h
  split at h
  ·rename_i a b c;simp at h;subst h;simp only[aD]at hx g;subst hx;subst g;simp[gx,dg c]
  ·rename_i k0 k a K b c
   split at h
   case isFalse=>simp at h
   rename_i hk;subst hk;simp at h;subst h;simp only[aD]at hx g;subst hx;subst g;exact run_equalIn_int w d T k k0 a b c
  ·rename_i a b c;simp at h;subst h;simp only[aD]at hx g;obtain⟨s,rfl,hs⟩:=hx;obtain⟨t,rfl,B⟩:=g;rw[run_equalIn_string w d T s t c,bytes_beq,hs,B];rfl
  ·rename_i fs u E u' G c
   split at h
   case isFalse=>simp at h
   rename_i hc;obtain⟨hk,rfl,A,q⟩:=hc;simp only[aD]at hx g;obtain⟨l,o,k1,k2,rfl⟩:=hx;obtain⟨C,p,k3,k4,rfl⟩:=g;rw[k1]at k3;cases k3;obtain⟨I,C,s1,s2,L,m,M,D⟩:=vS (P:=P) (T:=T) (u:=u') (n:=fs.size) (by unfold eU;rw[hk,c]);rw[c]at s1;cases s1;rw[k1]at m;cases m;have j:P.fieldsOf T=fs:=by simp[hh,c]
   rw[run_equalIn_struct w d T _ _ (by rw[j];exact c) A,j];refine Je (eqF:=gh P n) (fun F a b r z _ _ x y hx g=>C9 n F a b r z x y hx g d (by omega)) fs.toList l E G r [] [] o p h q ?_ k2 k4 rfl (by simp) (by simp);intro i f hf;have hi:i<fs.size:=by
    have:=(hz.1 hf).1;simpa using this
   obtain⟨H,g1,g2,_⟩:=D i hi;rw[cb,g1]at hf;cases hf;simpa using g2
  ·simp at h
end
section
variable{P:dz}{w:dy}{ad ah:Nat->Prop}{β:Bd}{H:aj}
variable{o:Oper}{ρ:dp->AV}{base:Nat}
theorem Ej{d:e6}{T C:dq}{x y:dp}{r:Bool}{K:PV->Prop}{l:List (Nat×Obj)}(k:o.op= .binOp d T x y C)
 (D:d=.eql/\K (.bool r)\/d=.neq/\K (.bool !r))
 (I:∀(H:aj)(w:dy)(ad ah:Nat->Prop)(β:Bd)(a b:dl),bV P w ad β H ah->(∀p∈l,H[p.1]?=some p.2)->aB P w ad β H (ρ x) a->aB P w ad β H (ρ y) b->(gy T a b).run P w=.ok r w/\
  ((∃x,a=.bool x)\/(∃x,a=.agg x)\/(∃p n c,a=.slice p n c)\/(∃m,a=.map m)\/a=.nilFunc\/(∃f x y,a=.func f x y)\/(∃p,a=.pointer p)\/(a=.nilIface/\mU y=true))/\(∀u v,a=.agg u->b=.agg v->P.eqGuardType P.depth T=false)):
 ∃v,K v/\bB P o ρ base {v:=.p v,al:=l}:=by
 have key:∀v,K v->(∀(w:dy)(a b:dl),(gy T a b).run P w= .ok r w->((∃x,a= .bool x)\/(∃x,a= .agg x)\/(∃p n c,a= .slice p n c)\/(∃m,a= .map m)\/a= .nilFunc\/(∃f x y,a= .func f x y)\/(∃p,a= .pointer p)\/a= .nilIface)->
  ∃q,v=.bool q/\(binOp d T a b).run P w=.ok (.bool q) w)->∃v,K v/\bB P o ρ base {v:=.p v,al:=l}:=by
  intro v J hq;refine⟨v,J,bB.same fun H w ad ah β s G t al=>?_⟩;obtain⟨L,z,A⟩:=I H w ad ah β _ _ G al (t x (by simp[k,gt])).1 (t y (by simp[k,gt])).1;obtain⟨q,rfl,F⟩:=hq w _ _ L (by rcases z with h|h|h|h|h|h|h|h<;>simp[h]);refine⟨.bool q,?_,by simp[aB,aD],by simp[aE]⟩;simp only[dx,k];refine fp ?_;have E:(eqGuard d T x y (s x) (s y)).run P w=.ok () w:=by
   rcases z with⟨p,e⟩|⟨p,e⟩|⟨p,n,c,e⟩|⟨m,e⟩|e|⟨f,M,N,e⟩|⟨p,e⟩|⟨e,hc⟩
   all_goals rw[e]at A⊢
   case inr.inl=>
    cases hy:s y with
    |agg B=>
     exact run_eqGuard_agg w d T x y p B (A p B rfl hy)
    |_=>cases d<;>rfl
   case inr.inr.inr.inr.inr.inr.inr=>
    cases y<;>simp[mU]at hc;unfold eqGuard;cases d<;>simp<;>(split<;>simp_all)
   all_goals (cases d<;>rfl)
  simp[E,F]
 rcases D with⟨rfl,j⟩|⟨rfl,j⟩
 ·exact key _ j fun w a b g i=>⟨_,rfl,(I7 g i).1⟩
 ·exact key _ j fun w a b g i=>⟨_,rfl,(I7 g i).2⟩
theorem zH(T:dq)(a b:dl):∃d,9<=d+1/\gy T a b=gx (d+1) T a b:=⟨9999,by omega,rfl⟩
theorem Kk{T:dq}{c:Bool}{b:AV}{k:vz}(h:dI P T c b=some k):
 (k=.ptr/\b=.p .dR/\∃e,P.underlying T=some (.pointer e))\/(k=.slice/\b=.p .aH/\∃e,P.underlying T=some (.slice e))\/
 (k=.map/\b=.p .fF/\∃e f,P.underlying T=some (.map e f))\/(k=.func/\b=.p .iU/\∃e f g,P.underlying T=some (.func e f g))\/(k=.iface/\b=.p .gO/\c=true/\∃m,P.underlying T=some (.interface m)):=by
 unfold dI at h
 split at h<;>first
  |(split at h
    ·rename_i a;simp at h;subst h;simp[a]
    ·simp at h)
  |simp at h
theorem aJX{T:dq}{c:Bool}{H0:aj}{a b:AV}{r:Bool}{k:vz}(hk:dI P T c b=some k)(h:cV H0 k a=some r){l s:dl}(al:∀p∈dJ H0 a,H[p.1]?=some p.2)(i:aB P w ad β H a l)(C:aB P w ad β H b s):
 (gy T l s).run P w=.ok r w/\((∃x,l=.bool x)\/(∃x,l=.agg x)\/(∃p n c,l=.slice p n c)\/(∃m,l=.map m)\/l=.nilFunc\/(∃f x y,l=.func f x y)\/(∃p,l=.pointer p)\/(l=.nilIface/\c=true))/\(∀u v,l=.agg u->s=.agg v->P.eqGuardType P.depth T=false):=by
 obtain⟨d,_,I⟩:=zH T l s;rw[I];rcases Kk hk with⟨rfl,rfl,e,j⟩|⟨rfl,rfl,e,j⟩|⟨rfl,rfl,e,f,j⟩|⟨rfl,rfl,e,f,g,j⟩|⟨rfl,rfl,G,m,j⟩
 all_goals simp only[aB,aD]at C
 all_goals subst C
 ·cases a<;>simp only[cV]at h
  case p v=>
   cases v<;>simp only at h<;>simp at h
   all_goals subst h
   all_goals simp only[aB,aD]at i
   ·subst i;simp[gx,dg j]
   ·obtain⟨_,_,_,_,_,_,rfl⟩:=i;simp[gx,dg j]
  case ptr B path=>
   simp only[aB,bO,bS]at i;obtain⟨_,_,_,_,rfl,_⟩:=i
   split at h
   ·simp at h;subst h;simp[gx,dg j]
   ·simp at h
  all_goals simp at h
 ·cases a<;>simp only[cV]at h
  case p v=>
   cases v
   case seq o=>
    cases o with
    |nil=>simp at h
    |cons e o=>
     simp at h;subst h;simp only[aB,aD]at i;rcases i with⟨J,_⟩|⟨_,_,_,_,_,_,_,_,_,_,_,rfl⟩
     ·cases J
     ·simp[gx,dg j]
   all_goals simp only at h
   all_goals simp at h
   all_goals subst h
   all_goals simp only[aB,aD]at i
   ·subst i;simp[gx,dg j]
   ·obtain⟨_,_,_,_,_,_,_,_,_,_,_,_,rfl⟩:=i;simp[gx,dg j]
  case sl B aA ai off len=>
   simp only[aB,bO,bS]at i;simp only[dJ]at al
   split at h
   case h_2=>simp at h
   rename_i A M L o t;rw[t]at al;have z:=al _ (hZ.2 rfl)
   split at h
   case isFalse=>simp at h
   rename_i hc;obtain⟨rfl,rfl⟩:=hc;obtain⟨_,E,F⟩:=i.2 A o z
   by_cases q:di A o
   ·rw[E q];have:r=true:=by simp at h;rw[<-h];simp[q.1,q.2]
    subst this;simp[gx,dg j]
   ·rw[F q];have:r=false:=by
     simp at h;rw[<-h];unfold di at q
     by_cases D:A.gr=true
     ·have K:o≠[]:=fun h=>q ⟨D,h⟩;simp[K]
     ·simp[D]
    subst this;simp[gx,dg j]
  all_goals simp at h
 ·cases a<;>simp only[cV]at h
  case p v=>
   cases v<;>simp only at h<;>simp at h
   all_goals subst h
   all_goals simp only[aB,aD]at i
   ·subst i;simp[gx,dg j]
   ·obtain⟨_,_,_,_,_,_,rfl⟩:=i;simp[gx,dg j]
  case map B=>
   simp only[aB,bO,bS]at i;simp only[dJ]at al
   split at h
   case h_2=>simp at h
   rename_i fz o t;rw[t]at al;have z:=al _ (hZ.2 rfl);rw[i.2.1 ⟨_,_,z⟩];simp at h;subst h;simp[gx,dg j]
  all_goals simp at h
 ·cases a<;>simp only[cV]at h
  case p v=>
   cases v<;>simp only at h<;>simp at h
   all_goals subst h
   all_goals simp only[aB,aD]at i
   ·obtain⟨_,_,_,_,rfl⟩:=i;simp[gx,dg j]
   ·subst i;simp[gx,dg j]
  case func f first iS=>
   simp only[aB]at i;obtain⟨_,_,_,_,rfl⟩:=i;simp at h;subst h;simp[gx,dg j]
  all_goals simp at h
 ·cases a<;>simp only[cV]at h
  case p v=>
   cases v<;>simp only at h<;>simp at h
   all_goals subst h
   all_goals simp only[aB,aD]at i
   subst i;simp[gx,dg j,G]
  all_goals simp at h
theorem aJ6{i:e6}{T s:dq}{x y:dp}{K:PV->Prop}{H0:aj}(j:o.op= .binOp i T x y s)(h:lg P i T (mU y) H0 (ρ x) (ρ y) K):
 ∃v,K v/\bB P o ρ base {v:=.p v,al:=dJ H0 (ρ x)}:=by
 unfold lg at h
 split at h
 ·rename_i k a C b hx g;exact aKa j hx g h.1 h.2 _
 ·rename_i a b hx g;exact aKf j hx g h _
 ·rename_i a b hx g;obtain⟨z,h⟩:=h;have m:=UK z;refine Ej (r:=a==b) j ?_ ?_
  ·split at h
   ·exact .inl ⟨rfl,h⟩
   ·exact .inr ⟨rfl,h⟩
   ·exact h.elim
  ·intro H w ad ah β n q e al f c;rw[hx]at f;rw[g]at c;simp only[aB,aD]at f c;subst f;subst c;obtain⟨d,_,l⟩:=zH T (.bool a) (.bool b);rw[l];exact⟨by simp[gx,dg m],.inl ⟨_,rfl⟩,fun u v m _=>by cases m⟩
 ·rename_i u fs u' t hx g;obtain⟨B,h⟩:=h;obtain⟨r,e,c⟩:∃r,gh P 9 T (.st u fs) (.st u' t)=some r/\(i=.eql/\K (.bool r)\/i=.neq/\K (.bool !r)):=by
   split at h
   ·rename_i r e;exact⟨r,e,.inl ⟨rfl,h⟩⟩
   ·rename_i r e;exact⟨r,e,.inr ⟨rfl,h⟩⟩
   ·exact h.elim
  refine Ej (r:=r) j c ?_;intro H w ad ah β n q _ al f c;rw[hx]at f;rw[g]at c;simp only[aB]at f c;refine⟨?_,?_,fun u v _ _=>by simpa[nR]using B⟩
  ·obtain⟨d,A,l⟩:=zH T n q;rw[l];exact C9 9 T _ _ r e _ _ f c (d+1) A
  ·simp only[aD]at f;obtain⟨_,_,_,_,rfl⟩:=f;exact .inr (.inl ⟨_,rfl⟩)
 ·rename_i hx g
  split at h
  case h_2=>exact h.elim
  rename_i k hk;obtain⟨r,e,c⟩:∃r,cV H0 k (ρ x)=some r/\(i=.eql/\K (.bool r)\/i=.neq/\K (.bool !r)):=by
   split at h
   ·rename_i r e;exact⟨r,e,.inl ⟨rfl,h⟩⟩
   ·rename_i r e;exact⟨r,e,.inr ⟨rfl,h⟩⟩
   ·exact h.elim
  exact Ej (r:=r) j c fun H w ad ah β n q _ al f c=>aJX hk e al f c
end
section
variable{P:dz}{w:dy}{ad ah:Nat->Prop}{β:Bd}{H:aj}
variable{o:Oper}{ρ:dp->AV}{base:Nat}
theorem oC{c:dp->dl}:∀(l:List dp),(∀x∈l,aB P w ad β H (ρ x) (c x)/\aE (aJ H) (ρ x))->bI P w ad β H (l.map ρ) (l.map c)/\aS (aJ H) (l.map ρ)
 |[],_=>by simp[bI,aS]
 |x::l,h=>by
  have a:=h x (by simp);have b:=oC l (fun y d=>h y (by simp[d]));simp only[hQ,bI,aS];exact⟨⟨_,_,rfl,a.1,b.1⟩,a.2,b.2⟩
theorem zB{H0:aj}:∀(l:List AV){j:List PV}{al aL:List (Nat×Obj)}{H:aj}{ad:Nat->Prop}{vs:List dl},fZ H0 l=some (j,al,aL)->bV P w ad β H ah->bI P w ad β H l vs->aS (aJ H) l->
 (∀p∈al,∃f fz t,p.2=.box fz t/\H[p.1]?=some (.box f t))->∃aF,bZ P ah ad w β H aF w β (bm H aL)/\bK P w aF j vs/\∀p∈aL,p.1<H0.length/\p.2≠.hole
 |[],j,al,aL,H,ad,vs,h,i,e,_,_=>by
  simp[fZ]at h;obtain⟨rfl,rfl,rfl⟩:=h;simp only[bI]at e;exact⟨ad,bZ.refl i,by simpa[bK]using e,by simp⟩
 |a::l,j,al,aL,H,ad,vs,h,i,e,d,m=>by
  simp only[bI]at e;obtain⟨y,x,rfl,n,u⟩:=e;simp only[aS]at d;cases a with
  |p v=>
   simp only[fZ]at h
   split at h
   case h_2=>simp at h
   rename_i G B E k;simp at h;obtain⟨rfl,rfl,rfl⟩:=h;obtain⟨aF,q1,o,q⟩:=zB l k i u d.2 m;simp only[aB]at n;exact⟨aF,q1,by simp only[bK];exact⟨y,x,rfl,aD.mono q1.bQ (fun _ _=>rfl) _ _ n,o⟩,q⟩
  |ptr b path=>
   cases path with
   |cons _ _=>simp[fZ]at h
   |nil=>
    simp only[fZ]at h
    split at h
    case h_2=>simp at h
    rename_i fz t G B E C k;simp at h;obtain⟨rfl,rfl,rfl⟩:=h;obtain⟨f,J,K,e1,e2⟩:=m (b,.box fz (.p t)) (by simp);cases e1;have D:kJ H (.ptr b [])=some (.cm t,H.set b (.box true (.p t))):=by
     simp only at e2;simp[kJ,e2,lL]
    obtain⟨I,g,F⟩:=K3 D i n d.1;have A:b<H.length:=(hz.1 e2).1;obtain⟨z,q1,o,q⟩:=zB l k g.rel (bI.mono g.bQ (fun _ _=>rfl) g.step _ _ d.2 u) (aS.mono g.fy _ d.2) (by
     intro p c;obtain⟨f2,r,t2,g1,g2⟩:=m p (by simp[c])
     by_cases s:b=p.1
     ·rw[<-s]at g2⊢;simp only at e2;rw[e2]at g2;cases g2;exact⟨true,r,_,g1,by rw[hA A]⟩
     ·exact⟨f2,r,t2,g1,by rw[hU s];exact g2⟩)
    refine⟨z,by simpa only[bm]using g.trans q1,?_,?_⟩
    ·simp only[bK];exact⟨y,x,rfl,aD.mono q1.bQ (fun _ _=>rfl) _ _ F,o⟩
    ·intro p c;rcases hP.1 c with rfl|c
     ·exact⟨(hz.1 C).1,by simp⟩
     ·exact q p c
  |_=>simp[fZ]at h
theorem VM{f:ei}{fi ca:Array dp}(E:o.op= .makeFunc (.func f) fi ca):
 (∀a b,eA (fi.toList.map ρ)=some a->eA (ca.toList.map ρ)=some b->bB P o ρ base {v:=.p (.func f a b)})/\
 bB P o ρ base {v:=.func f (fi.toList.map ρ) (ca.toList.map ρ)}/\
 (∀(H0:aj) a b al aL,fZ H0 (fi.toList.map ρ)=some (a,[],[])->fZ H0 (ca.toList.map ρ)=some (b,al,aL)->bB P o ρ base {v:=.p (.func f a b),al,aL}/\(∀p∈al,H0[p.1]?=some p.2)/\(∀p∈aL,p.1<H0.length/\p.2≠.hole)):=by
 have g:∀x,x∈fi.toList\/x∈ca.toList->x∈o.op.operands:=by
  intro x hx;rw[E];simp only[gt,Array.mem_append];simpa using hx
 have u:∀(c:dp->dl)(w:dy),(dx c o).run P w=.ok (.value (.func (.func f) (fi.toList.map c).toArray (ca.toList.map c).toArray)) w:=by
  intro c w;simp only[dx,E];refine fp ?_;have j:(fi.toList.map c).toArray=fi.map c:=by apply b5;simp
  have k:(ca.toList.map c).toArray=ca.map c:=by apply b5;simp
  rw[j,k];simp[Instr.makeFunc]
 refine⟨?_,?_,?_⟩
 ·intro a b s m;refine bB.same fun H w ad ah β c z e _=>⟨_,u c w,?_,by simp[aE]⟩
  obtain⟨j,_⟩:=oC fi.toList (fun x hx=>e x (g x (.inl hx)));obtain⟨k,_⟩:=oC ca.toList (fun x hx=>e x (g x (.inr hx)));rw[mC s]at j;rw[mC m]at k;simp only[aB,aD];exact⟨_,_,jV.1 j,jV.1 k,rfl⟩
 ·refine bB.same fun H w ad ah β c z e _=>⟨_,u c w,?_,?_⟩
  ·simp only[aB];exact⟨_,_,(oC fi.toList (fun x hx=>e x (g x (.inl hx)))).1,(oC ca.toList (fun x hx=>e x (g x (.inr hx)))).1,rfl⟩
  ·simp only[aE];exact⟨(oC fi.toList (fun x hx=>e x (g x (.inl hx)))).2,(oC ca.toList (fun x hx=>e x (g x (.inr hx)))).2⟩
 ·intro H0 a b al aL s m;have D:∀p∈al,H0[p.1]?=some p.2/\∃fz t,p.2=.box fz t:=by
   have:∀(l:List AV)(b:List PV)(al aL:List (Nat×Obj)),fZ H0 l=some (b,al,aL)->∀p∈al,H0[p.1]?=some p.2/\∃fz t,p.2=.box fz t:=by
    intro l
    induction l with
    |nil=>intro b al aL h;simp[fZ]at h;obtain⟨rfl,rfl,rfl⟩:=h;simp
    |cons x l q=>
     intro b al aL h;cases x with
     |p v=>
      simp only[fZ]at h
      split at h
      case h_2=>simp at h
      rename_i B n A i;simp at h;obtain⟨rfl,rfl,rfl⟩:=h;exact q _ _ _ i
     |ptr J path=>
      cases path with
      |cons _ _=>simp[fZ]at h
      |nil=>
       simp only[fZ]at h
       split at h
       case h_2=>simp at h
       rename_i fz t B n A y i;simp at h;obtain⟨rfl,rfl,rfl⟩:=h;intro p d;rcases hP.1 d with rfl|d
       ·exact⟨y,_,_,rfl⟩
       ·exact q _ _ _ i p d
     |_=>simp[fZ]at h
   exact this _ _ _ _ m
  have K:∀p∈aL,p.1<H0.length/\p.2≠.hole:=by
   have:∀(l:List AV)(b:List PV)(al aL:List (Nat×Obj)),fZ H0 l=some (b,al,aL)->∀p∈aL,p.1<H0.length/\p.2≠.hole:=by
    intro l
    induction l with
    |nil=>intro b al aL h;simp[fZ]at h;obtain⟨rfl,rfl,rfl⟩:=h;simp
    |cons x l q=>
     intro b al aL h;cases x with
     |p v=>
      simp only[fZ]at h
      split at h
      case h_2=>simp at h
      rename_i B n A i;simp at h;obtain⟨rfl,rfl,rfl⟩:=h;exact q _ _ _ i
     |ptr J path=>
      cases path with
      |cons _ _=>simp[fZ]at h
      |nil=>
       simp only[fZ]at h
       split at h
       case h_2=>simp at h
       rename_i fz t B n A y i;simp at h;obtain⟨rfl,rfl,rfl⟩:=h;intro p d;rcases hP.1 d with rfl|d
       ·exact⟨(hz.1 y).1,by simp⟩
       ·exact q _ _ _ i p d
     |_=>simp[fZ]at h
   exact this _ _ _ _ m
  refine⟨?_,fun p d=>(D p d).1,K⟩;intro H w ad ah β c z e n _;obtain⟨j,N⟩:=oC fi.toList (fun x hx=>e x (g x (.inl hx)));obtain⟨k,G⟩:=oC ca.toList (fun x hx=>e x (g x (.inr hx)));obtain⟨O,r,L,_⟩:=zB _ s z j N (by simp);simp only[bm]at r;obtain⟨I,q1,M,_⟩:=zB _ m r.rel (bI.mono r.bQ (fun _ _=>rfl) r.step _ _ G k) G (by
   intro p d;obtain⟨_,fz,t,F⟩:=D p d;have C:=n p d;rw[F]at C;exact⟨fz,fz,t,F,C⟩)
  simp only[newAt,hN];refine⟨_,_,w,β,I,u c w,.inl rfl,r.trans q1,?_,by simp[aE]⟩;simp only[aB,aD];exact⟨_,_,bK.mono q1.bQ (fun _ _=>rfl) _ _ L,M,rfl⟩
theorem Cn{x:dp}(d:o.op=.nilCheck x)(h:(∃b p,ρ x=.ptr b p)\/(∃b v e i p,ρ x=.b7 b v e i p)\/∃t,ρ x=.p (.cm t)):bB P o ρ base {v:=ρ x}:=by
 refine bB.same fun H w ad ah β f l k al=>?_;have c:=k x (by simp[d,gt]);refine⟨f x,?_,c⟩;have j:∃a,f x=.pointer (some a):=by
  rcases h with⟨b,p,hx⟩|⟨b,v,e,i,p,hx⟩|⟨t,hx⟩
  ·have c:=c.1;rw[hx]at c;simp only[aB,bO,bS]at c;obtain⟨_,_,_,_,h,_⟩:=c;exact⟨_,h⟩
  ·have c:=c.1;rw[hx]at c;simp only[aB,bO,bS]at c;obtain⟨_,_,_,_,h,_⟩:=c;exact⟨_,h⟩
  ·have c:=c.1;rw[hx]at c;simp only[aB,aD]at c;obtain⟨_,_,_,_,_,_,h⟩:=c;exact⟨_,h⟩
 obtain⟨a,g⟩:=j;simp[dx,d,g]
end
end Go.ak
