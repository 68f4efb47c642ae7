import Derived.Test.YtanjnahmbanmaaaGreatDoorThA
import Derived.Lib.Strings
import Derived.Laws.Append
import Derived.Laws.StructEq
import Derived.Laws.Concat
import Derived.MapKept
/- Parts of a proof. -/
set_option linter.unusedSimpArgs false
set_option linter.unusedVariables false
set_option linter.unusedSectionVars false
open Array renaming ext'->b5, getElem?_toList->cb, replicate->cc, range->ce, getD_eq_getD_getElem?->ck, mapM_eq_mapM_toList->cv, getElem_toList->cx, length_toList->cy, getElem?_push->c6, foldl_toList->c9, toList_map->da
open Bool renaming false_eq_true->db, and_eq_true->dg
open Go renaming run_underlying->dk, Value->dl, Operand->dp, TypeId->dq, execOp->dx, World->dy, Program->dz, TypeInfo->ea, setRow_other->eb, ResultVar->ec, setRow_heap->ed, run_newObj->ee, FuncId->ei, run_firstCells_some->ej, run_storeCells_at->em, IntKind->en, step_lone_go->eo, setRow_size->eq, Steps->ew, Frame->e6, Field->e7, BinOp->e8
open Go.Builtin renaming firstCells->e9, append_->fb, len_->fl, lenOf->fm, zeroCells->fv, nextslicecap->gb, copy_->gc
open Go.ByteArray renaming toList_eq->ge
open Go.Instr renaming sliceBounds->gg, slice->gi, sureAddr->gj, sliceBound->gm, indexAt->gt, sliceAt->gx, fill->gy, build->g0
open Go.Op renaming operands->g7, equalIn->g8, equal->g9, bytesLess->ha, eqFields->hb, unary->hd, stringOp->he, intArith->hg, intBits->hh
open Go.Program renaming cellsOf->hj, underlying->hl, underlyingId->hm, fieldsOf->hn
open Go.Result renaming andThen_ok->ho
open Go.Sem renaming run_bind->hp, run_pure->hr, run_map->ht, run->hv
open Go.Steps renaming trans->hw, one->hz
open Go.Value renaming oneCell'->hA, int->hB, cells->hC
open List renaming getElem?_eq_some_iff->hD, getElem?_set_self->hE, replicate->hF, length_append->hG, sum_replicate_nat->hH, take_replicate->hJ, length_eq_zero_iff->hK, append_assoc->hL, mem_of_mem_take->hM, mem_cons_of_mem->hN, getElem?_eq_getElem->hO, getElem?_replicate->hP, mem_of_mem_drop->hQ, append_nil->hR, flatten_cons->hS, mem_cons->hT, map_cons->hU, take_of_length_le->hV, mem_of_getElem?->hW, length->hX, getElem?_set_ne->hZ, drop_take->h0, length_pos_iff->h1, flatten_append->h2, mem_singleton->h3, size_toArray->h4, mem_append->h5, mem_or_eq_of_mem_set->h6, getElem_append_right->h7, getElem_append_left->h8, eq_of_mem_replicate->h9, getElem?_cons_succ->ih, replicate_succ->ii, getElem?_map->ik, getElem_mem->ip, flatten_nil->ix, nil_append->iz, mapM_cons->i0, map_take->i1, mem_map->i3
open Nat renaming le_refl->i4, lt_irrefl->i5, min_eq_left->i6, add_mul->i7, add_zero->i8, add_sub_cancel_left->i9, mul_le_mul->jc, add_assoc->jp, zero_mul->js, zero_add->j1, sub_zero->j2, ne_of_lt->j3
open Option renaming isSome_iff_exists->j4, map_none->j5, bind_some->j6, map_some->j7
open Option.some renaming injEq->j8, inj->j9
open Prod renaming snd->kb, fst->kc
namespace Go.az
set_option linter.unusedSectionVars false
variable[Gl]
def iw(i:Nat):List AV->Env
 |[]=>[]
 |v::r=>(i,v)::iw (i+1) r
def oB(P:dz)(s:St):ec->Option AV
 | .tmp t=>some (aN s.env t)
 | .cell a T=>match aN s.env a with
  | .ptr b path=>match s.heap[b]? with
   |some (.box _ t)=>match eL t path with
    |some v=>if kindOf P T=ad v then some v else none
    |none=>none
   |_=>none
  |_=>none
def fC(P:dz)(s:St):List ec->Option (List AV)
 |[]=>some []
 |r::rs=>match oB P s r,fC P s rs with
  |some v,some vs=>some (v::vs)
  |_,_=>none
def oneOf:List AV->AV
 |[v]=>v
 |vs=>match dW vs with
  |some l=>.p (.aA l)
  |none=>.aA vs
def jD(f:AV->Option PV):List AV->Option (List PV)
 |[]=>some []
 |v::vs=>match f v,jD f vs with
  |some p,some a=>some (p::a)
  |_,_=>none
def er(H:aj):Nat->AV->Option PV
 |0,.p v=>some v
 |0,_=>none
 |n+1,x=>match x with
  | .p v=>some v
  | .sl b ar ai off len=>match H[b]? with
   |some (.arr k e c es)=>
    if ar=e/\ai=c/\off+len<=es.length then
     if k.gr=true/\es=[]then some .aL else
     match jD (er H n) ((es.drop off).take len)with
     |some d=>some (.cE (k== .exact&&off+len==es.length) d)
     |none=>none
    else none
   |_=>none
  | .ptr b path=>match H[b]? with
   |some (.box _ t)=>match eL t path with
    |some s=>match er H n s with
     |some p=>some (.bZ p)
     |none=>none
    |none=>none
   |_=>none
  | .map b=>match H[b]? with
   |some (.map _ es)=>some (.eH es)
   |_=>none
  | .func f fi ca=>match jD (er H n) fi,jD (er H n) ca with
   |some a,some b=>some (.func f a b)
   |_,_=>none
  | .st u fs=>match jD (er H n) fs with
   |some l=>some (.st u l)
   |none=>none
  | .aA vs=>match jD (er H n) vs with
   |some l=>some (.aA l)
   |none=>none
  | .bQ _ _ _ _ _=>none
section
variable{P:dz}{w:dy}{aa ah:Nat->Prop}{β:Bd}{H:aj}
def CF(aa:Nat->Prop)(β:Bd)(H:aj)(k:Nat):Prop:=aa k\/∃(b:Nat)(o:Obj),H[b]?=some o/\o.live/\β.al b=k
theorem HP:∀{n:Nat}{v:AV}{p:PV},er H n v=some p->(ad v=aJ p)
 |0,v,p,h=>by
  cases v<;>simp[er]at h;subst h;rfl
 |n+1,v,p,h=>by
  cases v<;>simp only[er]at h
  case p v=>simp at h;subst h;rfl
  case bQ=>simp at h
  case sl b ar ai off len=>
   split at h
   ·split at h
    ·split at h
     ·simp at h;subst h;rfl
     ·split at h
      ·simp at h;subst h;rfl
      ·simp at h
    ·simp at h
   ·simp at h
  case ptr b path=>
   split at h
   ·split at h
    ·split at h
     ·simp at h;subst h;rfl
     ·simp at h
    ·simp at h
   ·simp at h
  all_goals
   split at h
   ·simp at h;subst h;rfl
   ·simp at h
theorem Gp{v:AV}{p:PV}{cs:List dl}(hs:ad v=aJ p)(hc:bh P w aa β H v cs){I:Nat->Prop}(h:∀x,aw P w aa β H v x->aB P w I p x):aV P w I p cs:=by
 cases a:ad v with
 |bad=>exact((mS hc).2 a).elim
 |leaf=>
  obtain⟨c,rfl,b⟩:=(Br a cs).1 hc;exact(rL (hs▸a) _).2 ⟨c,rfl,h _ b⟩
 |agg u=>exact(uC (hs▸a) cs).2 (h _ ((Ku a cs).1 hc))
section lists
variable{f:AV->Option PV}{I:Nat->Prop}(hf:∀v p,f v=some p->ad v=aJ p/\(aD (aF H) v->∀x,aw P w aa β H v x->aB P w I p x))
include hf
theorem wZ:∀{vs:List AV}{a:List PV},jD f vs=some a->aU (aF H) vs->∀b,bD P w aa β H vs b->bE P w I a b
 |[],a,h,_,b,hx=>by
  simp[jD]at h;subst h;simpa[bD,bE]using hx
 |v::vs,a,h,c,b,hx=>by
  simp only[jD]at h
  split at h
  case h_2=>simp at h
  rename_i q g hq d;simp at h;subst h;simp only[aU]at c;simp only[bD]at hx;obtain⟨y,e,rfl,k1,k2⟩:=hx;simp only[bE];exact⟨y,e,rfl,(hf _ _ hq).2 c.1 _ k1,wZ d c.2 _ k2⟩
theorem Av:∀{vs:List AV}{b:List PV},jD f vs=some b->aU (aF H) vs->∀l a,bG P w aa β H l vs a->bg P w I l b a
 |[],b,h,_,l,a,hx=>by
  simp[jD]at h;subst h;cases l<;>simp_all [bG,bg]
 |v::vs,b,h,d,l,a,hx=>by
  simp only[jD]at h
  split at h
  case h_2=>simp at h
  rename_i q g hq e;simp at h;subst h;simp only[aU]at d;cases l with
  |nil=>simp[bG]at hx
  |cons m l=>
   simp only[bG]at hx;obtain⟨c,cs,rfl,k1,k2,k3⟩:=hx;simp only[bg];exact⟨c,cs,rfl,Gp (hf _ _ hq).1 k1 ((hf _ _ hq).2 d.1),k2,Av e d.2 _ _ k3⟩
end lists
theorem wM(e:bN P w aa β H ah):∀(n:Nat)(v:AV)(p:PV),er H n v=some p->aD (aF H) v->∀x,aw P w aa β H v x->aB P w (CF aa β H) p x
 |0,v,p,h,_,x,hx=>by
  cases v<;>simp[er]at h;subst h;simp only[aw]at hx;exact aB.mono (fun _=>.inl) (fun _ _=>rfl) _ _ hx
 |n+1,v,p,h,g,x,hx=>by
  have hf:∀v p,er H n v=some p->ad v=aJ p/\(aD (aF H) v->∀x,aw P w aa β H v x->aB P w (CF aa β H) p x):=fun v p h=>⟨HP h,wM e n v p h⟩
  cases v<;>simp only[er]at h
  case p v=>
   simp at h;subst h;simp only[aw]at hx;exact aB.mono (fun _=>.inl) (fun _ _=>rfl) _ _ hx
  case bQ=>simp at h
  case sl b ar ai off len=>
   split at h
   case h_2=>simp at h
   rename_i k ae Y i d
   split at h
   case isFalse=>simp at h
   rename_i L;obtain⟨rfl,rfl,z⟩:=L;simp only[aw]at hx;obtain⟨_,hx⟩:=hx;simp only[bM]at hx;obtain⟨v1,v2,v3⟩:=hx k i d
   split at h
   ·rename_i y;simp at h;subst h;simp[aB,v2 y]
   ·rename_i y
    split at h
    case h_2=>simp at h
    rename_i W O;simp at h;subst h;rw[v3 y];rcases e.cr b _ d with hold|⟨cs,T,C,rest,j,r,B,G,Z,I,ab,ac⟩
    ·exact(y hold).elim
    obtain⟨a,m,c,e1,e2,e3,e4,e5⟩:=jy r off len v1;have R:aU (aF H) ((i.drop off).take len):=by
     have:=e.refs b _ d;rw[cK];intro v S;exact cK.1 this v (hQ (hM S))
    have M:((i.drop off).take len).length=len:=by simp;omega
    have k1:=Av hf O R _ _ e2;have A:W.length=len:=by have:=(tD k1).2.1;simp at this;omega
    simp only[aB];refine⟨β.al b,off*ai,β.cap b-off,ai,m,by rw[A,<-M];exact k1,fun _=>.inr ⟨b,_,d,y,rfl⟩,?_,?_,?_,none,.inl rfl,?_⟩
    ·rw[<-e3];exact ld j (post:=c.flatten++rest) (by rw[B,e1];simp)
    ·intro hf;simp at hf;rw[A,I hf.1];omega
    ·rw[A];omega
    ·rw[A]
  case ptr b path=>
   split at h
   case h_2=>simp at h
   rename_i fz t d
   split at h
   case h_2=>simp at h
   rename_i s hs
   split at h
   case h_2=>simp at h
   rename_i q hq;simp at h;subst h;simp only[aw]at hx;obtain⟨_,hx⟩:=hx;simp only[bM]at hx;obtain⟨X,V,o,rfl,N,hx⟩:=hx;obtain⟨rfl,rfl⟩:=hx (.inl ⟨fz,_,d⟩);obtain⟨cs,T,j,r,B,G⟩:=e.cr b _ d;obtain⟨pre,xs,post,e1,e2,e3,_⟩:=od r hs N;have Q:aD (aF H) s:=tZ hs (e.refs b _ d);simp only[aB];refine⟨β.al b,V,xs,Gp (HP hq) e3 (wM e n _ _ hq Q),.inr ⟨b,_,d,trivial,rfl⟩,?_,rfl⟩;rw[<-e2];exact ld j e1
  case map b=>
   split at h
   case h_2=>simp at h
   rename_i fz i d;simp at h;subst h;simp only[aw]at hx;obtain⟨_,hx⟩:=hx;simp only[bM]at hx;have hx:=hx.1 ⟨fz,i,d⟩;obtain⟨E,clock,j,r,B⟩:=e.cr b _ d;simp only[aB];exact⟨β.al b,E,clock,.inr ⟨b,_,d,trivial,rfl⟩,j,cq.mono (fun _=>.inl) (fun _ _=>rfl) _ _ r,hx⟩
  case func f a b=>
   split at h
   case h_2=>simp at h
   rename_i a' b' J K;simp at h;subst h;simp only[aD]at g;simp only[aw]at hx;obtain⟨F,D,k1,k2,k3⟩:=hx;simp only[aB];exact⟨F,D,wZ hf J g.1 _ k1,wZ hf K g.2 _ k2,k3⟩
  case st u fs=>
   split at h
   case h_2=>simp at h
   rename_i l z;simp at h;subst h;simp only[aD]at g;simp only[aw]at hx;obtain⟨U,C,k1,k2,k3⟩:=hx;simp only[aB];exact⟨U,C,k1,Av hf z g _ _ k2,k3⟩
  case aA vs=>
   split at h
   case h_2=>simp at h
   rename_i l z;simp at h;subst h;simp only[aD]at g;simp only[aw]at hx;obtain⟨xs,k1,k2⟩:=hx;simp only[aB];exact⟨xs,wZ hf z g _ k1,k2⟩
end
section
variable{P:dz}{ag:ei->Bool}{fit:Nat->Array Oper->Bool}
theorem As:∀(args:List AV)(i x:Nat),aN (iw i args) x=if i<=x then(args[x-i]?).getD (.p .undef)else .p .undef
 |[],i,x=>by simp[iw,aN]
 |v::r,i,x=>by
  simp only[iw,aN,As r]
  by_cases h:x=i
  ·subst h;simp
  ·by_cases b:i<=x
   ·have a:i+1<=x:=by omega
    simp only[h,b,a,if_true,if_false];rw[show x-i=(x-(i+1))+1 by omega,ih]
   ·have a:¬i+1<=x:=by omega
    simp[h,b,a]
theorem rM{w:dy}{aa:Nat->Prop}{β:Bd}{H:aj}:∀{vs:List AV}{xs:List dl},bD P w aa β H vs xs->xs.length=vs.length/\∀i:Nat,aw P w aa β H ((vs[i]?).getD (.p .undef)) ((xs[i]?).getD undef)
 |[],xs,h=>by simp only[bD]at h;subst h;simp[aw,aB]
 |v::vs,xs,h=>by
  simp only[bD]at h;obtain⟨y,c,rfl,a,b⟩:=h;have:=rM b;refine⟨by simp[this.1],fun i=>?_⟩;cases i with
  |zero=>simpa using a
  |succ i=>simpa using this.2 i
theorem Th{ah aa:Nat->Prop}{β:Bd}{w:dy}{H:aj}{args:List AV}{a:List dl}{n:Nat}(f:bN P w aa β H ah)(d:bD P w aa β H args a)(g:aU (aF H) args)(i:args.length<=n):
 cw P n ah aa β ⟨iw 0 args,H⟩ (a.toArray++cc (n-a.length) undef) w:=by
 obtain⟨b,c⟩:=rM d;refine⟨f,fun x=>?_,fun x=>?_,by simp[b];omega⟩
 ·have e:(a.toArray++cc (n-a.length) undef).getD x undef=(a[x]?).getD undef:=by
   rw[ck,<-cb];simp only[Array.toList_append,Array.toList_replicate]
   by_cases hx:x<a.length
   ·rw[List.getElem?_append_left (by simpa using hx)]
   ·rw[List.getElem?_append_right (by simpa using hx)];simp only[hP];rw[List.getElem?_eq_none (by simpa using hx)]
    split<;>rfl
  rw[e,As];simpa using c x
 ·rw[As];simp only[Nat.zero_le,if_true,j2];cases h:args[x]? with
  |none=>simp[aD]
  |some v=>exact cK.1 g v (hW h)
theorem FA{w:dy}{aa:Nat->Prop}{β:Bd}{H:aj}{T:dq}{v:AV}{al off:Nat}{a:List dl}(hk:kindOf P T=ad v)(f:bh P w aa β H v a)(hc:gB w al off a):
 ∃g,(loadVar T ⟨al,off,none⟩).run P w=.ok g w/\aw P w aa β H v g:=by
 obtain⟨o,n⟩:=mS f;have m:∀j,(⟨al,off,none⟩:Addr).add j=⟨al,off+j,none⟩:=by intro j;unfold Addr.add;split<;>simp_all
 unfold kindOf at hk;cases hs:ad v with
 |bad=>exact(n hs).elim
 |leaf=>
  rw[hs]at hk;obtain⟨c,rfl,e⟩:=(Br hs a).1 f;refine⟨c,?_,e⟩;have h:=hc 0 (by simp);simp only[i8,List.getElem_cons_zero]at h;have b:(isAgg T).run P w=.ok false w:=by
   cases hu:P.underlying T with
   |none=>simp[hu]at hk
   |some d=>
    cases d<;>simp only[hu]at hk<;>first
     |(simp[isAgg,dk hu];done)
     |(split at hk<;>simp at hk)
  simp[loadVar,b,h]
 |agg u=>
  rw[hs]at hk;have e:=(Ku hs a).1 f;refine⟨.agg a.toArray,?_,e⟩;have b:(isAgg T).run P w=.ok true w/\P.cellsOf T=a.length:=by
   rw[o,hs];cases hu:P.underlying T with
   |none=>simp[hu]at hk
   |some d=>
    cases d<;>simp only[hu]at hk<;>first
     |(split at hk
       ·rename_i hc;simp at hk;subst hk;simp at hc;refine⟨by simp[isAgg,dk hu],hc.2⟩
       ·simp at hk)
     |(split at hk<;>simp at hk)
  obtain⟨i,hi⟩:∃i,P.info? T=some i:=by
   cases hi:P.info? T with
   |none=>
    have l:=b.1;simp[isAgg,underlying,hl,hi]at l
   |some i=>exact⟨i,rfl⟩
  have q:(sizeOf T).run P w=.ok a.length w:=by
   rw[<-b.2];simp[sizeOf,typeInfo,hi,hj]
  have p:=run_loadCells_list (P:=P) w ⟨al,off,none⟩ a (fun j x hx=>by
   rw[m];have k:j<a.length:=(hD.1 hx).1;rw[hc j k];rw[hO k]at hx;exact hx)
  simp[loadVar,b.1,q,p]
theorem S1{n:Nat}{ah aa:Nat->Prop}{β:Bd}{s:St}{t:Array dl}{w:dy}(h:cw P n ah aa β s t w){g:ec}{v:AV}(c:oB P s g=some v):
 ∃e,(match g with
  | .tmp x=>(pure (t.getD x undef):Sem dl)
  | .cell a T=>do loadVar T (<-asAddr (t.getD a undef))).run P w=.ok e w/\aw P w aa β s.heap v e/\aD (aF s.heap) v:=by
 cases g with
 |tmp x=>
  simp[oB]at c;subst c;exact⟨_,rfl,h.env x,h.gp x⟩
 |cell a T=>
  simp only[oB]at c;have d:=h.env a
  split at c
  case h_2=>simp at c
  rename_i b B k;rw[k]at d
  split at c
  case h_2=>simp at c
  rename_i fz r f
  split at c
  case h_2=>simp at c
  rename_i v' hs
  split at c
  case isFalse=>simp at c
  rename_i hc;simp at c;subst c;simp only[aw]at d;obtain⟨_,d⟩:=d;simp only[bM]at d;obtain⟨y,q,o,p,m,d⟩:=d;obtain⟨rfl,rfl⟩:=d (.inl ⟨fz,r,f⟩);obtain⟨cs,u,i,j,z,A⟩:=h.heap.cr b _ f;obtain⟨pre,xs,post,e1,e2,e3,_⟩:=od j hs m;have l:gB w (β.al b) q xs:=by rw[<-e2];exact ld i e1
  obtain⟨e,k1,k2⟩:=FA hc e3 l;refine⟨e,?_,k2,tZ hs (h.heap.refs b _ f)⟩;simp only[p,asAddr];simp[k1]
theorem FD{n:Nat}{ah aa:Nat->Prop}{β:Bd}{s:St}{t:Array dl}{w:dy}(h:cw P n ah aa β s t w):∀{d:List ec}{vs:List AV},fC P s d=some vs->
 ∃c:List dl,(d.mapM (fun i:ec=>match i with
  | .tmp x=>(pure (t.getD x undef):Sem dl)
  | .cell a T=>do loadVar T (<-asAddr (t.getD a undef)))).run P w=.ok c w/\bD P w aa β s.heap vs c/\aU (aF s.heap) vs
 |[],vs,b=>by
  simp[fC]at b;subst b;exact⟨[],by simp,by simp[bD],by simp[aU]⟩
 |r::d,vs,b=>by
  simp only[fC]at b
  split at b
  case h_2=>simp at b
  rename_i v j f g;simp at b;subst b;obtain⟨e,k1,k2,k3⟩:=S1 h f;obtain⟨c,g1,g2,g3⟩:=FD h g;refine⟨e::c,?_,by simp only[bD];exact⟨e,c,rfl,k2,g2⟩,by simp only[aU];exact⟨k3,g3⟩⟩;simp only[i0,hp,k1,ho,g1];rfl
theorem GY{w:dy}{aa:Nat->Prop}{β:Bd}{H:aj}{vs:List AV}{a:List dl}(h:bD P w aa β H vs a)(d:aU (aF H) vs):
 aw P w aa β H (oneOf vs) (if h:a.toArray.size=1 then a.toArray[0]else .tuple a.toArray)/\aD (aF H) (oneOf vs):=by
 have b:=(rM h).1
 match vs,a,h with
 |[v],[c],h=>
  simp only[bD]at h;obtain⟨y,j,g,e,i⟩:=h;cases g;simp only[aU]at d;exact⟨by simpa[oneOf]using e,by simpa[oneOf]using d.1⟩
 |[],[],h=>exact⟨by simp[oneOf,dW,aw,aB,bE],by simp[oneOf,dW,aD]⟩
 |v1::v2::vs,c1::c2::a,h=>
  have hs:¬(c1::c2::a).toArray.size=1:=by simp
  rw[dif_neg hs];simp only[oneOf];cases f:dW (v1::v2::vs)with
  |none=>exact⟨by simp only[aw];exact⟨_,h,rfl⟩,by simpa only[aD]using d⟩
  |some l=>
   have:=lr f;rw[this]at h;exact⟨by simp only[aw,aB];exact⟨_,jj.1 h,rfl⟩,by simp[aD]⟩
 |[],_::_,_=>simp at b
 |[_],[],_=>simp at b
 |[_],_::_::_,_=>simp at b
 |_::_::_,[],_=>simp at b
 |_::_::_,[_],_=>simp at b
theorem takes{fr:e6}{cs:List e6}(c:fr.mode= .returning):∀(a:List Nat)(w:dy),a.Nodup->(∀r∈a,w.heap[r]?=some (.deferred (some [])))->
 ∃w',ew P (lone {fr with defers:=a.map mark} cs w) (lone {fr with defers:=[]} cs w')/\w'.heap.size=w.heap.size/\(∀k,k∉a->w'.heap[k]?=w.heap[k]?)/\(w'.os=w.os/\w'.output=w.output)
 |[],w,_,_=>⟨w,Steps.refl _ _,rfl,fun _ _=>rfl,rfl,rfl⟩
 |r::a,w,b,h=>by
  rw[List.nodup_cons]at b;have f:=h r (by simp);have hk:=run_takeDeferred (P:=P) f;have m:=(Array.getElem?_eq_some_iff.1 f).1;obtain⟨w',g,i,j,l⟩:=takes c a (w.putObj r (.deferred none)) b.2 (fun x hx=>(World.putObj_heap_other (fun(e:x=r)=>b.1 (e▸hx))).trans (h x (by simp[hx])));refine⟨w',(hz (step_collected (fr:={fr with defers:=(r::a).map mark}) (d:=mark r) (ds:=a.map mark) (by simp[c]) rfl rfl hk)).trans g,by simpa using i,fun k hk=>?_,l⟩;simp only[hT,not_or]at hk;exact(j k hk.2).trans (World.putObj_heap_other hk.1)
theorem FX{N:Nat}{f:ei}{fn:Func}{c:Code}(z:kX P ag)(y:rE P ag fit)(hf:P.funcs[f]?=some fn)(F:fn.body=some c)(M:codeOk fit fn.ntmps c=true)
 {args:List AV}{H:aj}{R:List AV->St->Prop}(K:args.length<=fn.ntmps)
 (T:bW P ag (fn.ntmps,N) c (fun e s=>(match e with
  | .exit _=>False
  |_=>True)/\∃vs,fC P s fn.results.toList=some vs/\R vs s) ⟨iw 0 args,H⟩)
 {w:dy}{aa ah:Nat->Prop}{β:Bd}{d:List dl}(i:bN P w aa β H ah)(q:bD P w aa β H args d)(O:aU (aF H) args):
 Calls P f d.toArray w fun e w'=>∃vs s a aE aG t,e=.returned (if h:a.toArray.size=1 then a.toArray[0]else .tuple a.toArray)/\R vs s/\cw P fn.ntmps ah aE aG s t w'/\dL N ah aa w β H ah aE w' aG s.heap/\
  bD P w' aE aG s.heap vs a/\aU (aF s.heap) vs:=by
 intro cs;have X:=(rM q).1;obtain⟨g,j⟩:∃g:e6,g={fn:=f,tmps:=#[],todo:=[],defers:=[],mode:=.run,kind:=.normal}:=⟨_,rfl⟩
 have G:Frame.enter P f d.toArray .normal=bu g (d.toArray++cc (fn.ntmps-d.length) undef) [] [.code c]:=by
  subst j;simp[Frame.enter,bu,hf,F]
 obtain⟨e,s,V,aE,aG,t,w1,W,⟨A,vs,B,C⟩,o,m,b,D⟩:=l6 (fr:=g) (cs:=cs) (ds:=[]) z y c [] M T (Th i q O K) (fun l I=>by subst j;cases I);obtain⟨rs,u,L,n,Y,_⟩:=D;rw[hR]at u;subst u;rw[G]
 have p:∀todo,ew P (lone (bu g (d.toArray++cc (fn.ntmps-d.length) undef) [] [.code c]) cs w) (lone {bu g t (rs.map mark) todo with mode:= .returning} cs w1)->
  ∃e w' fr,(∃vs s a aE aG t,e=.returned (if h:a.toArray.size=1 then a.toArray[0]else .tuple a.toArray)/\R vs s/\cw P fn.ntmps ah aE aG s t w'/\dL N ah aa w β H ah aE w' aG s.heap/\
   bD P w' aE aG s.heap vs a/\aU (aF s.heap) vs)/\Comes P (lone (bu g (d.toArray++cc (fn.ntmps-d.length) undef) [] [.code c]) cs w) (lone fr cs w') e/\fr.fn=f/\fr.leaving P w' e:=by
  intro todo aK;obtain⟨w',t1,t2,t3,t4⟩:=takes (P:=P) (fr:={bu g t (rs.map mark) todo with mode:=.returning}) (cs:=cs) rfl rs w1 L (fun r i=>(n r i).2.2.2);have S:∀k,aE k->w'.heap[k]?=w1.heap[k]?:=fun k hk=>t3 k (fun i=>(n k i).2.2.1 hk);have v:cw P fn.ntmps ah aE aG s t w':=⟨m.heap.shut b.dY (R:=fun k=>k∈rs) (fun x hx=>⟨(n x hx).2.1,(n x hx).2.2.1⟩) t2 t3,fun x=>aw.mono (fun _ x=>x) S (cd.refl _ _) _ _ (m.gp x) (m.env x),m.gp,m.size⟩
  have E:dL N ah aa w β H ah aE w' aG s.heap:=⟨fun _ x=>x,b.bL,b.fresh,⟨by rw[t2];exact b.ext.size,fun k hk=>(t3 k (fun J=>by
   have:=(n k J).1;have:=hk.elim (i.dY k) (i.bL k);omega)).trans (b.ext.same k hk),t4.1.trans b.ext.io.1,t4.2.trans b.ext.io.2⟩,b.step,b.eQ,b.loop⟩
  obtain⟨a,g1,g2,g3⟩:=FD v B;have Q:(results fn t).run P w'=.ok (if h:a.toArray.size=1 then a.toArray[0]else .tuple a.toArray) w':=by
   simp only[results];rw[cv];rw[hp,ht]
   erw [g1]
   rfl
  refine⟨_,w',{bu g t [] todo with mode:=.returning},⟨vs,s,a,aE,aG,t,rfl,C,v,E,g2,g3⟩,hw aK t1,by subst j;rfl,?_⟩;subst j;exact⟨rfl,rfl,rfl,fn,hf,Q⟩
 cases e with
 |exit id=>exact A.elim
 |normal=>
  exact p [] (hw o (.one (eo (by subst j;simp[stepG,stepG.exec,bu]))))
 |ret=>
  obtain⟨U,o⟩:=o;exact p (.code .ret::U) (hw o (.one (eo (by subst j;simp[stepG,stepG.exec,bu]))))
theorem Iz{f:ei}{fn:Func}{c:Code}(n:kX P ag)(m:rE P ag fit)(A:Enters P f)(hf:P.funcs[f]?=some fn)(z:fn.body=some c)(E:codeOk fit fn.ntmps c=true)
 {args:List PV}{v:PV}(D:args.length<=fn.ntmps)
 (I:bW P ag (fn.ntmps,0) c (fun e s=>(match e with
  | .exit _=>False
  |_=>True)/\∃vs,fC P s fn.results.toList=some vs/\er s.heap 9 (oneOf vs)=some v) ⟨iw 0 (args.map .p),[]⟩):qH P f args v:=by
 refine⟨A,fun w aa J C B y=>?_⟩;have F:bN P w aa ⟨id,id⟩ [] (fun k=>k<w.heap.size):=⟨by simp,by simp,by simp,C,fun _ h=>h,B⟩
 refine(FX n m hf z E (R:=fun vs s=>er s.heap 9 (oneOf vs)=some v) (by simpa using D) I F (jj.2 y) (iF _ _)).mono ?_;rintro e w' ⟨vs,s,K,aE,aG,t,rfl,x,hs,d,G,H⟩;obtain⟨q,r⟩:=GY G H;have u:=wM hs.heap _ _ _ x r _ q;refine⟨_,CF aE aG s.heap,rfl,fun k hk=>.inl (d.bL k hk),?_,?_,d.ext.size,fun k hk=>d.ext.same k (.inl hk),d.ext.io,u⟩
 ·rintro k (hk|⟨b,o,j,g,rfl⟩)
  ·rcases d.fresh k hk with h|h
   ·exact .inl h
   ·exact .inr (by omega)
  ·by_cases l:aG.al b<w.heap.size
   ·
    left;have a:=hs.heap.cr b o j;have:aE (aG.al b)\/¬(aG.al b<w.heap.size):=by
     have key:∀fz,cm aE aG (fun k=>k<w.heap.size) fz b->aE (aG.al b)\/¬(aG.al b<w.heap.size):=fun fz h=>by
      cases fz with
      |true=>exact .inl h
      |false=>exact .inr h.2
     cases o with
     |hole=>exact g.elim
     |dead=>exact g.elim
     |box fz t=>obtain⟨_,_,_,_,h,_⟩:=a;exact key _ h
     |arr k ar ai es=>
      rcases a with a|⟨_,_,_,_,_,_,_,_,_,_,h,_⟩
      ·exact(g a).elim
      ·exact key _ h
     |map fz es=>obtain⟨_,_,_,_,h⟩:=a;exact key _ h
     |dc s pos=>obtain⟨_,_,_,h⟩:=a;exact key _ h
     |loop L=>obtain⟨_,_,_,_,_,_,h⟩:=a;exact key _ h
    rcases this with h|h
    ·rcases d.fresh _ h with i|i
     ·exact i
     ·exact(i l).elim
    ·exact(h l).elim
   ·exact .inr (by omega)
 ·rintro k (hk|⟨b,o,j,g,rfl⟩)
  ·exact hs.heap.bL k hk
  ·exact hs.heap.ma j g
def sH(P:dz)(a:List ec)(N:Nat)(H':aj)(v:AV)(e:bm)(s:St):Prop:=
 (match e with
  | .exit _=>False
  |_=>True)/\∃vs,fC P s a=some vs/\oneOf vs=v/\(H'=s.heap\/(dd N s ⟨[],H'⟩/\aD (aF H') v))
theorem UP{f:ei}{fn:Func}{c:Code}(q:kX P ag)(p:rE P ag fit)(u:Enters P f)(hf:P.funcs[f]?=some fn)(j:fn.body=some c)(A:codeOk fit fn.ntmps c=true)
 {args:List AV}{H H':aj}{v:AV}(z:args.length<=fn.ntmps)(G:bW P ag (fn.ntmps,H.length) c (sH P fn.results.toList H.length H' v) ⟨iw 0 args,H⟩):de P f H args H' v:=by
 refine⟨u,fun w aa ah β I B r C=>?_⟩;refine(FX q p hf j A (R:=fun vs s=>oneOf vs=v/\(H'=s.heap\/(dd H.length s ⟨[],H'⟩/\aD (aF H') v))) z G B r C).mono ?_;rintro e w' ⟨vs,s,g,aE,aG,t,rfl,⟨rfl,a⟩,hs,m,F,E⟩;obtain⟨i,k⟩:=GY F E;obtain⟨d,k1,k2,k3⟩:dL H.length ah aa w β H ah aE w' aG H'/\bN P w' aE aG H' ah/\aw P w' aE aG H' (oneOf vs) (if h:g.toArray.size=1 then g.toArray[0]else .tuple g.toArray)/\aD (aF H') (oneOf vs):=by
  rcases a with rfl|⟨a,D⟩
  ·exact⟨m,hs.heap,i,k⟩
  ·refine⟨m.trans (a.fa (β:=aG) (ah:=ah) (aa:=aE) (w:=w')),(a.rel hs).heap,?_,D⟩;rcases a with a|a
   ·have e:H'=s.heap:=by rw[<-a]
    rw[e];exact i
   ·exact aw.mono (fun _ x=>x) (fun _ _=>rfl) a.1.step _ _ k i
 refine⟨_,aG,aE,rfl,⟨d.bL,d.fresh,d.ext,d.step.full,k1,fun x hx=>?_,fun b j=>?_⟩,k2,k3⟩
 ·obtain⟨o,n,y⟩:=hx;exact d.eQ x (hD.1 n).1 ⟨o,n,y⟩
 ·obtain⟨L,l⟩:=j;exact d.loop b (hD.1 l).1 ⟨L,l⟩
theorem cw.post{n:Nat}{ah aa aE:Nat->Prop}{β aG:Bd}{s:St}{H':aj}{t:Array dl}{w w':dy}(h:cw P n ah aa β s t w)(a:bP P ah aa w β s.heap aE w' aG H'):cw P n ah aE aG ⟨s.env,H'⟩ t w':=
 ⟨a.rel,fun x=>aw.mono a.bL (fun k hk=>a.ext.same k (.inr hk)) a.step _ _ (h.gp x) (h.env x),fun x=>aD.mono a.eQ _ (h.gp x),h.size⟩
def pX:List Tmp->List AV->Env->Env
 |t::ts,v::vs,e=>pX ts vs ((t,v)::e)
 |_,_,e=>e
def gE:bm->Option Code
 | .normal=>none
 | .exit id=>some (.exit id)
 | .ret=>some .ret
def rG(b:Nat)(K:aj->AV->Prop)(e:bm)(s:St):Prop:=
 match s.heap[b]? with
 |some (.loop L)=>K (s.heap.set b (.loop {L with st:=if(gE e).isNone then .ready else .done,pending:=gE e})) (.p (.bool (gE e).isNone))
 |_=>False
def wL(P:dz)(ag:ei->Bool)(q:Cx)(b:Nat)(body:Code)(K:aj->AV->Prop)(e:bm)(s:St):Prop:=
 match e,s.heap[b]? with
 | .normal,some (.loop L)=>L.st=.ready/\bW P ag q body (rG b K) ⟨s.env,s.heap.set b (.loop {L with st:=.busy})⟩
 |_,_=>False
def xA(P:dz)(ag:ei->Bool)(L:dD)(b:Nat)(args:List AV)(H:aj)(K:aj->AV->Prop):Prop:=
 bW P ag (L.n,H.length) L.assign (wL P ag (L.n,H.length) b L.body K) ⟨pX L.params args L.env,H⟩
def pM(ts:List Tmp)(a:List dl)(t:Array dl):Array dl:=(ts.zip a).foldl (fun t(p,v)=>t.setIfInBounds p v) t
theorem Gy{w:dy}{aa:Nat->Prop}{β:Bd}{H:aj}:∀{ts:List Tmp}{vs:List AV}{xs:List dl}{e:Env}{t:Array dl},(∀x∈ts,x<t.size)->bD P w aa β H vs xs->aU (aF H) vs->(∀x,aw P w aa β H (aN e x) (t.getD x undef))->(∀x,aD (aF H) (aN e x))->
 (pM ts xs t).size=t.size/\(∀x,aw P w aa β H (aN (pX ts vs e) x) ((pM ts xs t).getD x undef))/\(∀x,aD (aF H) (aN (pX ts vs e) x))
 |[],vs,xs,e,t,_,a,_,b,c=>by
  cases vs<;>exact⟨rfl,b,c⟩
 |p::ts,[],xs,e,t,_,a,_,b,c=>by
  simp only[bD]at a;subst a;exact⟨rfl,b,c⟩
 |p::ts,v::vs,xs,e,t,f,a,d,b,c=>by
  simp only[bD]at a;obtain⟨y,h,rfl,k1,k2⟩:=a;simp only[aU]at d;have g:p<t.size:=f p (by simp);obtain⟨g1,g2,g3⟩:=Gy (ts:=ts) (vs:=vs) (xs:=h) (e:=(p,v)::e) (t:=t.setIfInBounds p y) (fun x hx=>by simpa using f x (by simp[hx])) k2 d.2
   (fun x=>by
    simp only[aN]
    by_cases hx:x=p
    ·subst hx;simp[g];exact k1
    ·simp only[hx,if_false,ck,Array.getElem?_setIfInBounds_ne (Ne.symm hx)];simpa using b x)
   (fun x=>by
    simp only[aN]
    split
    ·exact d.1
    ·exact c x)
  exact⟨by simpa[pM]using g1,g2,g3⟩
theorem zip_toArray(a:List Tmp)(b:List dl)(t:Array dl):(a.toArray.zip b.toArray).foldl (fun t(p,v)=>t.setIfInBounds p v) t=pM a b t:=by
 unfold pM;rw[<-c9];simp
theorem UN(I:kX P ag)(G:rE P ag fit){b:Nat}{L:dD}{H H':aj}{args:List AV}{v:AV}(f:H[b]?=some (.loop L))(aC:args.length=L.params.length)(aE:∀x∈L.params,x<L.n)
 (ar:codeOk fit L.n L.assign=true)(hc:codeOk fit L.n L.body=true)(aJ:xA P ag L b args H (fun af aT=>aT=v/\dd H.length ⟨[],af⟩ ⟨[],H'⟩)):fh P b H args H' v:=by
 refine⟨⟨L,f⟩,fun w aa ah β i B W av=>?_⟩;obtain⟨tmps,defers,fn,ap,M,aq,aX⟩:=B.cr b _ f;have s:b<H.length:=(hD.1 f).1;have ay:=(rM W).1;have j:=run_yield (P:=P) (args:=i.toArray) ap (by simp[ay,aC]);obtain⟨q1,aP,aQ⟩:=Gy (ts:=L.params) (vs:=args) (xs:=i) (e:=L.env) (t:=tmps) (fun x hx=>by rw[M];exact aE x hx) W av aq (B.refs b _ f);rw[zip_toArray]at j;refine⟨fn,_,_,_,j,fun K ae=>?_⟩;obtain⟨c,z⟩:∃c:e6,c={fn:=fn,tmps:=#[],todo:=[],defers:=[],mode:=.run,kind:=.normal,roundOf:=some (β.al b)}:=⟨_,rfl⟩
 have g:c.roundOf=some (β.al b):=by subst z;rfl
 have A:c.kind=.normal:=by subst z;rfl
 have az:Frame.round (β.al b) fn (pM L.params i tmps) L.assign L.body .normal=bu c (pM L.params i tmps) [] [.code L.assign,.beginRound,.code L.body]:=by subst z;rfl
 have V:qf H.length c β H:=fun l Z=>by
  rw[g]at Z;cases Z;exact⟨b,s,⟨L,f⟩,rfl⟩
 obtain⟨e1,s1,aW,aV,aU,t1,w1,an,g1,g2,g3,g4,g5⟩:=l6 (N:=H.length) (fr:=c) (cs:=K::ae) (ds:=[]) I G L.assign [.beginRound,.code L.body] ar aJ ⟨B,aP,aQ,q1.trans M⟩ V;unfold wL at g1
 split at g1
 case h_2=>exact g1.elim
 rename_i q Q;obtain⟨g1,g6⟩:=g1;obtain⟨bc,m1,_,_,m4,m5⟩:=g5;have aH:=m5 (by rw[g];rfl);subst aH;obtain rfl:an=[]:=m1;have al:aU.al b=β.al b:=(g4.step.loop b s ⟨_,f,trivial⟩ ⟨q,Q⟩).2;obtain⟨rec,ad,aR,aS,a7,a8,a9,ba,bb,D⟩:=Bz g3.heap Q .busy q.pending;rw[al]at ad D;have X:=run_beginRound (P:=P) ad (aR.trans g1);have ax:({rec with state:=.busy}:Loop)={rec with state:=.busy,pending:=q.pending}:=by rw[<-aS]
 rw[ax]at X;have T:=g4.trans (D.fa (N:=H.length));obtain⟨e2,s2,r,p,m,t2,F,ao,k1,k2,k3,k4,k5⟩:=l6 (N:=H.length) (fr:=c) (cs:=K::ae) (ds:=[]) I G L.body [] hc g6 (g3.post D) (V.fa T);unfold rG at k1
 split at k1
 case h_2=>exact k1.elim
 rename_i J S;obtain⟨rfl,Y⟩:=k1;obtain⟨bd,aL,_,_,aM,aO⟩:=k5;have aI:=aO (by rw[g];rfl);subst aI;obtain rfl:ao=[]:=aL;have aY:∀k,r k->ah k:=fun k hk=>(m4 k ((aM k hk).resolve_right (by simp))).resolve_right (by simp);have U:=T.trans k4;have am:m.al b=β.al b:=(U.step.loop b s ⟨_,f,trivial⟩ ⟨J,S⟩).2;obtain⟨E,ac,aZ,a0,a1,a3,a4,a5,a6,C⟩:=Bz k3.heap S (if(gE e2).isNone then .ready else .done) (gE e2);rw[am]at ac C;have u:=run_endRound (P:=P) (gE e2) ac;have au:=U.trans (C.fa (N:=H.length));have d:=au.trans (Y.fa (β:=m) (ah:=r) (aa:=p) (w:=F.putObj (β.al b) (.loop {E with state:=if(gE e2).isNone then .ready else .done,pending:=gE e2})));refine⟨.bool (gE e2).isNone,F.putObj (β.al b) (.loop {E with state:=if(gE e2).isNone then .ready else .done,pending:=gE e2}),m,p,?_,?_,by simp[aw,aB],by simp[aD]⟩
 ·rw[az];refine hw (g2:ew P _ _) ((hz (stepR_beginRound (b:=c) (a:=⟨t1,[]⟩) g X)).trans ?_);cases e2 with
  |normal=>exact hw (k2:ew P _ _) (.one (stepR_round_end (b:=c) (a:=⟨t2,[]⟩) g A u))
  |exit id=>
   obtain⟨aK,ak,a2⟩:=k2;exact hw a2 (.one (stepR_round_exit (b:=c) (a:=⟨t2,[]⟩) g A (by rw[ak];rfl) u))
  |ret=>
   obtain⟨aK,a2⟩:=k2;exact hw a2 (.one (stepR_round_ret (b:=c) (a:=⟨t2,[]⟩) g A u))
 ·have aF:cw P 0 r p m ⟨[],s2.heap.set b (.loop {J with st:=if(gE e2).isNone then .ready else .done,pending:=gE e2})⟩ #[] (F.putObj (β.al b) (.loop {E with state:=if(gE e2).isNone then .ready else .done,pending:=gE e2})):=
   ⟨C.rel,fun x=>by simp[aN,aw,aB],fun x=>by simp[aN,aD],rfl⟩
  have aG:=(Y.rel aF).heap;refine⟨d.bL,d.fresh,d.ext,d.step.full,aG.shut d.dY (R:=fun _=>False) (fun _ h=>h.elim) rfl (fun _ _=>rfl),fun x hx=>?_,fun y j=>?_⟩
  ·obtain⟨o,ab,aA⟩:=hx;exact d.eQ x (hD.1 ab).1 ⟨o,ab,aA⟩
  ·obtain⟨ai,O⟩:=j;exact d.loop y (hD.1 O).1 ⟨ai,O⟩
end
section
variable{P:dz}
theorem Jl{w:dy}{aa:Nat->Prop}{b:Bool}{v:dl}:aB P w aa (.bool b) v↔v=.bool b:=by simp[aB]
theorem Cc{w:dy}{aa:Nat->Prop}{k:en}{n:Int}{v:dl}:aB P w aa (.int k n) v↔v=.int k n:=by simp[aB]
theorem Kr{w:dy}{aa:Nat->Prop}{s:List Nat}{v:dl}:aB P w aa (.str s) v↔∃bs:ByteArray,v=.string bs/\s=bs.data.toList.map (·.toNat):=by simp[aB]
theorem eM{s:Sem dl}{w:dy}{a:dl}(h:s.run P w=.ok a w):(do pure (Next.value (<-s)):Sem Next).run P w=.ok (.value a) w:=by simp[h]
theorem tC{s:Sem dl}{w w':dy}{a:dl}(h:s.run P w=.ok a w'):(do pure (Next.value (<-s)):Sem Next).run P w=.ok (.value a) w':=by simp[h]
theorem wx{T:dq}{v:AV}{w:dy}{aa:Nat->Prop}{β:Bd}{H:aj}{cs:List dl}(hk:kindOf P T=ad v)(d:bh P w aa β H v cs):P.cellsOf T=cs.length/\∃i,P.info? T=some i/\i.size=cs.length:=by
 obtain⟨c,a⟩:=mS d;have b:P.cellsOf T=cs.length:=by
  rw[c,<-hk];unfold kindOf at hk⊢
  split at hk
  ·split at hk<;>rename_i hc
   ·simp at hc;rw[if_pos (by simpa using hc)];simp[bA,hc.2]
   ·exact(a hk.symm).elim
  ·split at hk<;>rename_i hc
   ·simp at hc;rw[if_pos (by simpa using hc)];simp[bA,hc]
   ·exact(a hk.symm).elim
  ·split at hk<;>rename_i hc
   ·simp at hc;rw[if_pos (by simpa using hc)];simp[bA,hc]
   ·exact(a hk.symm).elim
  ·exact(a hk.symm).elim
 refine⟨b,?_⟩;cases hi:P.info? T with
 |none=>
  have:kindOf P T=.bad:=by simp[kindOf,hl,hi]
  rw[this]at hk;exact(a hk.symm).elim
 |some i=>exact⟨i,rfl,by simpa[hj,hi]using b⟩
variable{o:Oper}{ρ:dp->AV}{base:Nat}
theorem OO{x:dp}(a:o.op=.move x\/o.op=.assign x):bn P o ρ base {v:=ρ x}:=by
 refine bn.same fun H w aa ah β c d b _=>?_;refine⟨c x,?_,b x ?_⟩
 ·rcases a with a|a<;>simp[dx,a]
 ·rcases a with a|a<;>simp[a,g7]
theorem aFl{c a b:dp}{t:Bool}(d:o.op=.pick c a b)(hc:ρ c=.p (.bool t)):bn P o ρ base {v:=if t then ρ a else ρ b}:=by
 refine bn.same fun H w aa ah β g h f _=>?_;have e:=(f c (by simp[d,g7])).1;rw[hc]at e;simp only[aw,Jl]at e;refine⟨if t then g a else g b,by simp[dx,d,e,asBool],?_⟩;cases t with
 |true=>exact f a (by simp[d,g7])
 |false=>exact f b (by simp[d,g7])
theorem GC{t:dp}{i:Nat}{vs:List AV}{v:AV}(g:o.op=.extract t i)(e:ρ t=.aA vs\/∃l,ρ t=.p (.aA l)/\vs=l.map .p)(hi:vs[i]?=some v):bn P o ρ base {v}:=by
 refine bn.same fun H w aa ah β j m h _=>?_;obtain⟨d,f⟩:=h t (by simp[g,g7]);obtain⟨c,k1,k2,k3⟩:∃c,bD P w aa β H vs c/\j t=.tuple c.toArray/\aU (aF H) vs:=by
  rcases e with e|⟨l,e,rfl⟩
  ·rw[e]at d f;simp only[aw,aD]at d f;obtain⟨c,a,b⟩:=d;exact⟨c,a,b,f⟩
  ·rw[e]at d;simp only[aw,aB]at d;obtain⟨c,a,b⟩:=d;exact⟨c,jj.2 a,b,iF _ _⟩
 obtain⟨g1,g2⟩:=rM k1;have k:i<vs.length:=(hD.1 hi).1;have hx:c[i]?=some (c[i]'(by omega)):=hO (by omega);have g3:=g2 i;rw[hi,hx]at g3;refine⟨c[i]'(by omega),?_,by simpa using g3,cK.1 k3 v (hW hi)⟩;simp only[dx,g,Instr.extract,k2];simp[hx]
theorem aFh{c:e8}{T j:dq}{x y:dp}{k d:en}{a b:Int}{K:PV->Prop}(g:o.op= .binOp c T x y j)(hx:ρ x= .p (.int k a))(t:ρ y= .p (.int d b))(hk:k=d\/c= .shl\/c= .shr)
 (h:oH c k a b K)(ak:List (Nat×Obj)):∃v,K v/\bn P o ρ base {v:=.p v,ak}:=by
 have key:∀v,K v->(∀w:dy,(binOp c T (.int k a) (.int d b)).run P w= .ok (match v with| .int k n=> .int k n| .bool b=> .bool b|_=>undef) w)->(∀w aa,aB P w aa v (match v with| .int k n=> .int k n| .bool b=> .bool b|_=>undef))->
  ∃v,K v/\bn P o ρ base {v:=.p v,ak}:=by
  intro v s r q;refine⟨v,s,bn.same fun H w aa ah β z u i _=>?_⟩;have e:=(i x (by simp[g,g7])).1;have f:=(i y (by simp[g,g7])).1;rw[hx]at e;rw[t]at f;simp only[aw,Cc]at e f;refine⟨_,?_,by simp only[aw];exact q w aa,by simp[aD]⟩;simp only[dx,g,e,f];refine eM ?_;have m:(eqGuard c T x y (.int k a) (.int d b)).run P w=.ok () w:=by
   unfold eqGuard
   split<;>simp
  simp[m,r w]
 cases c<;>simp only[oH]at h
 case add|sub|mul|and|or|xor|andNot|eql|neq|lss|leq|gtr|geq=>
  obtain rfl:k=d:=by rcases hk with h|h|h<;>first|exact h|cases h
  exact key _ h (fun w=>by simp[binOp,hg,hh,Op.intCmp]) (fun w aa=>by simp[aB])
 case quo|rem=>
  obtain rfl:k=d:=by rcases hk with h|h|h<;>first|exact h|cases h
  exact key _ h.2 (fun w=>by simp[binOp,Op.intDiv,h.1]) (fun w aa=>by simp[aB])
 case shl|shr=>
  have l:¬b<0:=by omega
  exact key _ h.2 (fun w=>by simp[binOp,Op.shift,l]) (fun w aa=>by simp[aB])
theorem Dg{u:UnOp}{T:dq}{x:dp}{v r:PV}(c:o.op= .unOp u T x)(hx:ρ x= .p v)
 (h:(u=.not/\∃b,v=.bool b/\r=.bool (!b))\/(u=.neg/\∃k n,v=.int k n/\r=.int k (k.wrap (0-n)))\/
  (u=.xor/\∃k n,v=.int k n/\r=.int k (k.wrap (BitVec.ofInt k.bits (if k.signed then -1 else k.max)^^^BitVec.ofInt k.bits n).toNat))):bn P o ρ base {v:=.p r}:=by
 refine bn.same fun H w aa ah β f e d _=>?_;have a:=(d x (by simp[c,g7])).1;rw[hx]at a;simp only[aw]at a;rcases h with⟨rfl,b,rfl,rfl⟩|⟨rfl,k,n,rfl,rfl⟩|⟨rfl,k,n,rfl,rfl⟩
 ·rw[Jl]at a;exact⟨_,by simp only[dx,c,a];exact eM (by simp[hd];rfl),by simp[aw,aB],by simp[aD]⟩
 ·rw[Cc]at a;exact⟨_,by simp only[dx,c,a];exact eM (by simp[hd,hg];rfl),by simp[aw,aB],by simp[aD]⟩
 ·rw[Cc]at a;exact⟨_,by simp only[dx,c,a];exact eM (by simp[hd,hh];rfl),by simp[aw,aB],by simp[aD]⟩
end
section
variable{P:dz}{w:dy}{aa ah:Nat->Prop}{β:Bd}{H:aj}
variable{o:Oper}{ρ:dp->AV}{base:Nat}
theorem kV(H:aj)(b:Nat)(o':Obj):bk H ([]++newAt b [o'])=H.set b o':=rfl
theorem TK{x:AV}{T:dq}(hs:ad x≠ .bad)(hx:iY T (ad x)=true)(hrefs:∀(H:aj)(w:dy)(aa ah:Nat->Prop)(β:Bd)(d:dp->dl),bN P w aa β H ah->
 (∀y∈o.op.operands,aw P w aa β H (ρ y) (d y)/\aD (aF H) (ρ y))->∃a,aw P w aa β H x a/\aD (aF H) x/\
  (dx d o).run P w=.ok (.value (.pointer (some ⟨w.heap.size,0,none⟩))) {w with heap:=w.heap.push (.cells a.cells T)}):
 bn P o ρ base {v:=.ptr base [],aQ:=[.box false x]}:=by
 intro H w aa ah β d b m _ j;obtain⟨a,f,e,g⟩:=hrefs H w aa ah β d b m;have c:H[base]?=some .hole:=by simpa using j 0 (by simp)
 have i:=wT f hs;have aK:=xd (β:=β) c (.box false x) w.heap.size 0;have ak:∀y,aF H y->aF (H.set base (.box false x)) y:=ly c (fun _ h=>h.elim);have l:=rH (cap:=0) b c (ob:=.cells a.cells T) (o':=.box false x)
  ⟨a.cells,T,by simp[Bd.at],bh.mono (fun _ x=>x) (fun k hk=>tN _ _ (b.bL k hk)) aK _ _ e i,by
   simp only[cm,Bd.at,if_true,db,if_false];exact⟨fun h=>i5 _ (b.bL _ h),fun h=>i5 _ (b.dY _ h)⟩,by simp,hx⟩ (aD.mono ak _ e)
 refine⟨_,_,_,_,aa,g,.inl rfl,l,?_,?_⟩
 ·simp only[aw,bJ,bM,kV];exact⟨rfl,_,_,0,rfl,rfl,fun _=>by simp[Bd.at]⟩
 ·simp only[aD,kV];exact⟨.box false x,by simp only;rw[hE (hD.1 c).1],trivial⟩
theorem aFe{T:dq}{x:dp}(a:o.op=.box T x)(hs:ad (ρ x)≠.bad)(hx:iY T (ad (ρ x))=true):bn P o ρ base {v:=.ptr base [],aQ:=[.box false (ρ x)]}:=by
 refine TK (T:=T) hs hx fun H w aa ah β e f d=>?_;obtain⟨b,c⟩:=d x (by simp[a,g7]);refine⟨e x,b,c,?_⟩;simp only[dx,a];simp[Instr.box,newVar,newRow]
theorem Aj{w:dy}{aa:Nat->Prop}:∀(n:Nat)(T:dq)(cs:List dl)(t:PV),sr P n T cs=some t->aV P w aa t cs/\kindOf P T=aJ t
 |0,_,_,_,h=>by simp[sr]at h
 |n+1,T,cs,t,h=>by
  have go:∀(b:List dq)(l:List Nat)(cs:List dl)(fs:List PV),n8 P (sr P n) b l cs=some fs->∃a,bg P w aa l fs a/\a.flatten=cs:=by
   intro b
   induction b with
   |nil=>
    intro l cs fs h;cases l with
    |nil=>
     cases cs with
     |nil=>simp[n8]at h;subst h;exact⟨[],by simp[bg]⟩
     |cons c cs=>simp[n8]at h
    |cons s i=>simp[n8]at h
   |cons T b q=>
    intro l cs fs h;cases l with
    |nil=>simp[n8]at h
    |cons s i=>
     simp only[n8]at h
     split at h
     case isFalse=>simp at h
     rename_i m
     split at h
     case h_2=>simp at h
     rename_i v vs g p
     split at h
     case isFalse=>simp at h
     rename_i r;simp at h;subst h;obtain⟨e,_⟩:=Aj n T _ v g;obtain⟨a,f,j⟩:=q i _ vs p;refine⟨cs.take s::a,by simp only[bg];exact⟨_,_,rfl,e,m,f⟩,?_⟩;simp[j]
  unfold sr at h
  split at h
  ·rename_i hk
   split at h
   case h_2=>simp at h
   rename_i c
   split at h
   ·simp at h
   ·rename_i v o;simp at h;subst h;have g:=FL (P:=P) (w:=w) (aa:=aa) c;have d:aJ (ofConst c)=.leaf:=by
     unfold ofConst at o⊢
     split<;>simp_all [aJ]
    exact⟨(rL d _).2 ⟨c,rfl,g⟩,by rw[hk,d]⟩
  ·rename_i u hk
   split at h
   case h_2=>simp at h
   rename_i l d
   split at h
   case h_2=>simp at h
   rename_i fs k;simp at h;subst h;obtain⟨a,e,f⟩:=go _ _ _ _ k;refine⟨by simp only[aV];exact⟨l,a,d,e,f.symm⟩,by simp[aJ,hk]⟩
  ·simp at h
theorem pf{T:dq}{z:PV}(h:ch P T=some z):∃i a,P.info? T=some i/\i.zero=some a/\(∀(w:dy)(aa:Nat->Prop),aV P w aa z a.cells.toList)/\kindOf P T=aJ z:=by
 unfold ch at h;cases hi:P.info? T with
 |none=>simp[hi]at h
 |some i=>
  simp only[hi,j6]at h;cases b:i.zero with
  |none=>simp[b]at h
  |some a=>
   simp only[b]at h
   split at h
   case isFalse=>simp at h
   exact⟨i,a,rfl,b,fun w aa=>(Aj 40 T _ z h).1,(Aj (w:=default) (aa:=fun _=>True) 40 T _ z h).2⟩
theorem Tc{T:dq}{z:PV}(h:ch P T=some z):∃a,(∀w:dy,(zeroValue T).run P w=.ok a w)/\∀(w:dy)(aa:Nat->Prop),aB P w aa z a:=by
 obtain⟨i,a,d,e,f,g⟩:=pf h;refine⟨a,fun w=>by simp[zeroValue,typeInfo,d,e],fun w aa=>?_⟩;have b:yA a (aJ z)=true:=by
  unfold ch at h;simp only[d,j6,e]at h
  split at h
  ·rename_i j;rw[<-g];exact j
  ·simp at h
 have hc:=f w aa;cases hs:aJ z with
 |bad=>exact((nX hc).2 hs).elim
 |leaf=>
  rw[hs]at b;obtain⟨c,k1,k2⟩:=(rL hs _).1 hc;cases a<;>simp[yA]at b<;>(simp[hC]at k1;subst k1;exact k2)
 |agg u=>
  rw[hs]at b;cases a<;>simp[yA]at b;have:=(uC hs _).1 hc;simpa[hC]using this
theorem rF{T:dq}{i:ea}{a:dl}(h:P.info? T=some i)(b:i.zero=some a)(w:dy):(zeroValue T).run P w=.ok a w:=by
 simp[zeroValue,typeInfo,h,b]
theorem U1{T:dq}{z:PV}(j:o.op=.alloc T)(m:ch P T=some z)(hx:iY T (aJ z)=true):bn P o ρ base {v:=.ptr base [],aQ:=[.box false (.p z)]}:=by
 obtain⟨i,b,d,e,f,q⟩:=pf m;intro H w aa ah β n a r _ g;have c:H[base]?=some .hole:=by simpa using g 0 (by simp)
 have l:(dx n o).run P w=.ok (.value (.pointer (some ⟨w.heap.size,0,none⟩))) {w with heap:=w.heap.push (.cells b.cells T)}:=by
  simp only[dx,j];simp[Instr.alloc,rF d e,newVar,newRow]
 have k:=rH (cap:=0) a c (ob:=.cells b.cells T) (o':=.box false (.p z))
  ⟨b.cells,T,by simp[Bd.at],by simp only[bh];exact f _ _,by
   simp only[cm,Bd.at,if_true,db,if_false];exact⟨fun h=>i5 _ (a.bL _ h),fun h=>i5 _ (a.dY _ h)⟩,by simp,by simpa[ad]using hx⟩ (by simp[Obj.refs,aD])
 refine⟨_,_,_,_,aa,l,.inl rfl,k,?_,?_⟩
 ·simp only[aw,bJ,bM,kV];exact⟨rfl,_,_,0,rfl,rfl,fun _=>by simp[Bd.at]⟩
 ·simp only[aD,kV];exact⟨.box false (.p z),by simp only;rw[hE (hD.1 c).1],trivial⟩
theorem BR{T:dq}{a:dp}{v:AV}(h:o.op= .load T a){d:dp->dl}{al off:Nat}{c:List dl}(g:d a= .pointer (some ⟨al,off,none⟩))(hk:kindOf P T=ad v)
 (i:bh P w aa β H v c)(hc:gB w al off c):∃b,(dx d o).run P w=.ok (.value b) w/\aw P w aa β H v b:=by
 obtain⟨b,e,f⟩:=FA hk i hc;refine⟨b,?_,f⟩;simp only[dx,h,Instr.loadAt,g,gj];simp[e]
theorem yf{ai:Nat}{d:List AV}{g:List (List dl)}(h:Row P w aa β H ai d g){i:Nat}(hi:i<d.length):
 ∃a c post,g.flatten=a++c++post/\a.length=i*ai/\c.length=ai/\bh P w aa β H d[i] c/\
  ∀e c',bh P w aa β H e c'->c'.length=c.length->∃b,b.flatten=a++c'++post/\Row P w aa β H ai (d.set i e) b:=by
 obtain⟨a,c,post,j,k,o,f,l,m⟩:=rR h (hO hi);have n:c.length=ai:=by
  rw[hP]at f;rw[if_pos hi]at f;simpa using f.symm
 refine⟨a,c,post,j,?_,n,l,?_⟩
 ·rw[k,hJ,i6 (by omega),hH]
 ·intro e c' hf hc;obtain⟨b,k1,k2⟩:=m e c' hf hc;exact⟨b,k1,by unfold Row;rw[List.length_set];exact k2⟩
theorem aFj{T:dq}{a:dp}(g:o.op= .load T a){H0:aj}{K:aS->Prop}(h:nu P T H0 (ρ a) K):
 ∃e,K e/\bn P o ρ base e/\(∀p∈e.ak,H0[p.1]?=some p.2)/\(∀p∈e.aI,p.1<H0.length/\p.2≠.hole):=by
 unfold nu at h
 split at h
 ·rename_i b J m
  split at h
  case h_2=>exact h.elim
  rename_i fz t u
  split at h
  case h_2=>exact h.elim
  rename_i s hs;obtain⟨hk,h⟩:=h;refine⟨_,h,bn.same fun H w aa ah β C j n ak=>?_,by simpa using u,by simp⟩;obtain⟨d,y⟩:=n a (by simp[g,g7]);rw[m]at d;simp only[aw,bJ,bM]at d;have f:H[b]?=some (.box fz t):=by simpa using ak
  obtain⟨_,E,I,B,x,r,d⟩:=d;obtain⟨rfl,rfl⟩:=d (.inl ⟨fz,t,f⟩);obtain⟨cs,D,k1,k2,k3,k4⟩:=j.cr b _ f;obtain⟨pre,xs,post,e1,e2,e3,_⟩:=od k2 hs r;obtain⟨l,g1,g2⟩:=BR g x hk e3 (by rw[<-e2];exact ld k1 e1);exact⟨l,g1,g2,tZ hs (j.refs b _ f)⟩
 ·rename_i b ar ai i J m
  split at h
  case h_2=>exact h.elim
  rename_i k W S q u;obtain⟨rfl,rfl,hi,h⟩:=h
  split at h
  case h_2=>exact h.elim
  rename_i s hs;obtain⟨hk,h⟩:=h;refine⟨_,h,bn.same fun H w aa ah β C j n ak=>?_,by simpa using u,by simp⟩;obtain⟨d,y⟩:=n a (by simp[g,g7]);rw[m]at d;simp only[aw,bJ,bM]at d;have f:H[b]?=some (.arr k ar ai q):=by simpa using ak
  have A:¬cR k q:=fun G=>by rw[G.2]at hi;simp at hi
  obtain⟨_,E,I,B,x,r,d⟩:=d;obtain⟨rfl,rfl⟩:=d k q f A;rcases j.cr b _ f with hold|⟨cs,D,R,rest,k1,k2,k3,_⟩
  ·exact(A hold).elim
  obtain⟨M,c,L,N,O,U,Q,_⟩:=yf k2 hi;obtain⟨pre,xs,post,e1,e2,e3,_⟩:=od Q hs r;have F:gB w (β.al b) (i*ai+B) xs:=by
   have:cs.toList=(M++pre)++xs++(post++L++rest):=by rw[k3,N,e1];simp
   have z:=ld k1 this;rw[hG,O,e2]at z;exact z
  obtain⟨l,g1,g2⟩:=BR g x hk e3 F;exact⟨l,g1,g2,tZ hs (cK.1 (j.refs b _ f) _ (ip hi))⟩
 ·rename_i t m;obtain⟨hk,h⟩:=h;refine⟨_,h,bn.same fun H w aa ah β C j n ak=>?_,by simp,by simp⟩;obtain⟨d,y⟩:=n a (by simp[g,g7]);rw[m]at d;simp only[aw,aB]at d;obtain⟨al,off,V,k1,k2,k3,k4⟩:=d;obtain⟨l,g1,g2⟩:=BR (β:=β) (H:=H) (v:=.p t) g k4 (by simpa[ad]using hk) (by simpa only[bh]using k1) k3;exact⟨l,g1,g2,by simp[aD]⟩
 ·exact h.elim
end
section
variable{P:dz}{w:dy}{aa ah:Nat->Prop}{β:Bd}{H:aj}
mutual
theorem Ks:∀{v:PV}{cs:List dl},aV P w aa v cs->∀c∈cs,c.oneCell'=true
 | .undef,_,h| .aA _,_,h=>by simp[aV]at h
 | .bool _,_,h| .int _ _,_,h| .dJ,_,h| .aL,_,h| .fq,_,h| .gW,_,h| .fZ,_,h=>by simp only[aV]at h;subst h;simp[hA]
 | .str _,_,h=>by simp only[aV]at h;obtain⟨_,rfl,_⟩:=h;simp[hA]
 | .bZ _,_,h=>by simp only[aV]at h;obtain⟨_,_,_,_,_,_,rfl⟩:=h;simp[hA]
 | .cE _ _,_,h=>by simp only[aV]at h;obtain⟨_,_,_,_,_,_,_,_,_,_,_,_,rfl⟩:=h;simp[hA]
 | .seq _,_,h=>by simp only[aV]at h;rcases h with⟨_,rfl⟩|⟨_,_,_,_,_,_,_,_,_,_,_,rfl⟩<;>simp[hA]
 | .eH _,_,h=>by simp only[aV]at h;obtain⟨_,_,_,_,_,_,rfl⟩:=h;simp[hA]
 | .func _ _ _,_,h=>by simp only[aV]at h;obtain⟨_,_,_,_,rfl⟩:=h;simp[hA]
 | .st u fs,_,h=>by
  simp only[aV]at h;obtain⟨l,a,b,d,rfl⟩:=h;exact Jn d
theorem Jn:∀{l:List Nat}{vs:List PV}{a:List (List dl)},bg P w aa l vs a->∀c∈a.flatten,c.oneCell'=true
 |[],[],_,h=>by simp only[bg]at h;subst h;simp
 |[],_::_,_,h=>by simp[bg]at h
 |_::_,[],_,h=>by simp[bg]at h
 |n::f,v::vs,a,h=>by
  simp only[bg]at h;obtain⟨c,cs,rfl,b,d,e⟩:=h;intro x hx;simp only[hS,h5]at hx;exact hx.elim (Ks b x) (Jn e x)
end
mutual
theorem xI:∀{v:AV}{cs:List dl},bh P w aa β H v cs->∀c∈cs,c.oneCell'=true
 | .p t,_,h=>by simp only[bh]at h;exact Ks h
 | .ptr ..,_,h| .bQ ..,_,h| .sl ..,_,h| .map ..,_,h=>by simp only[bh]at h;obtain⟨v,rfl,b,_⟩:=h;simpa using b
 | .func ..,_,h=>by simp only[bh]at h;obtain⟨_,_,_,_,rfl⟩:=h;simp[hA]
 | .aA _,_,h=>by simp[bh]at h
 | .st u fs,_,h=>by
  simp only[bh]at h;obtain⟨l,a,b,d,rfl⟩:=h;exact Jo d
theorem Jo:∀{l:List Nat}{vs:List AV}{a:List (List dl)},bG P w aa β H l vs a->∀c∈a.flatten,c.oneCell'=true
 |[],[],_,h=>by simp only[bG]at h;subst h;simp
 |[],_::_,_,h=>by simp[bG]at h
 |_::_,[],_,h=>by simp[bG]at h
 |n::f,v::vs,a,h=>by
  simp only[bG]at h;obtain⟨c,cs,rfl,b,d,e⟩:=h;intro x hx;simp only[hS,h5]at hx;exact hx.elim (xI b x) (Jo e x)
end
theorem o9(d:bN P w aa β H ah){b:Nat}{o o':Obj}(c:H[b]?=some o)(j:o.live)(l:o'.live)(m:∀v,o.has v->o'.has v){q new:Array dl}{T:dq}
 (i:w.heap[β.al b]?=some (.cells q T (0,0)))(e:¬aa (β.al b)/\¬ah (β.al b))(aK:cd β H β (H.set b o'))
 (n:fe P (w.setRow (β.al b) new) aa β (H.set b o') ah b o')(p:o'.refs (aF (H.set b o'))):
 bP P ah aa w β H aa (w.setRow (β.al b) new) β (H.set b o'):=by
 refine bP.set d (hD.1 c).1 (fun _ _=>⟨rfl,rfl⟩) (fun _ x=>x) (fun _ x=>.inl x) (fun k hk=>by rw[eq];exact d.bL k hk) (by rw[eq];exact i4 _)
  (fun k hk _=>eb w _ k _ (hk.resolve_right (fun h=>h l))) (fun _=>.inr ⟨rfl,⟨o,c,j⟩,.inr e.1,e.2⟩) aK n p (fun r v a f=>by rw[c]at a;cases a;exact m v f) (fun L g=>by obtain⟨_,_,_,a,_⟩:=d.cr b _ g;rw[i]at a;cases a)
theorem nY{b:Nat}{o o':Obj}(j:H[b]?=some o)(hk:(∃f g t y,o= .box f t/\o'= .box g y)\/(∃k v z d l,o= .arr k v z d/\o'= .arr k v z l/\d.length=l.length)\/(∃f g d l,o= .map f d/\o'= .map g l)\/(∃s p u,o= .dc s p/\o'= .dc s u)):
 cd β H β (H.set b o'):=by
 have r:b<H.length:=(hD.1 j).1;have i:∀x,x≠b->(H.set b o')[x]?=H[x]?:=fun x hx=>hZ (Ne.symm hx);have e:(H.set b o')[b]?=some o':=hE r;refine⟨?_,?_,?_,?_,?_⟩
 ·rintro x _ ⟨fz,t,h⟩;refine⟨?_,rfl⟩
  by_cases hx:x=b
  ·subst hx;rw[e]at h;cases h;rcases hk with⟨f,g,t1,t2,c,a⟩|⟨_,_,_,_,_,_,a,_⟩|⟨_,_,_,_,_,a⟩|⟨_,_,_,_,a⟩
   ·exact⟨f,t1,by rw[j,c]⟩
   all_goals cases a
  ·rw[i x hx]at h;exact⟨fz,t,h⟩
 ·rintro x _ ⟨s,p,h⟩;refine⟨?_,rfl⟩
  by_cases hx:x=b
  ·subst hx;rw[e]at h;cases h;rcases hk with⟨f,g,t1,t2,c,a⟩|⟨_,_,_,_,_,_,a,_⟩|⟨_,_,_,_,_,a⟩|⟨s1,m,w,c,a⟩
   ·cases a
   ·cases a
   ·cases a
   ·exact⟨s1,m,by rw[j,c]⟩
  ·rw[i x hx]at h;exact⟨s,p,h⟩
 ·rintro x _ ⟨fz,t,h⟩;refine⟨?_,rfl⟩
  by_cases hx:x=b
  ·subst hx;rw[e]at h;cases h;rcases hk with⟨f,g,t1,t2,c,a⟩|⟨_,_,_,_,_,_,a,_⟩|⟨f,g,e1,e2,c,a⟩|⟨s1,m,w,c,a⟩
   ·cases a
   ·cases a
   ·exact⟨f,e1,by rw[j,c]⟩
   ·cases a
  ·rw[i x hx]at h;exact⟨fz,t,h⟩
 ·intro x ar ai k d _ h
  by_cases hx:x=b
  ·subst hx;unfold fg at h⊢;rw[e]at h;cases h;rcases hk with⟨f,g,t1,t2,c,a⟩|⟨k0,v,z,n,A,c,a,q⟩|⟨_,_,_,_,_,a⟩|⟨_,_,_,_,a⟩
   ·cases a
   ·cases a;refine⟨k,n,by rw[j,c],by omega,?_,fun _=>⟨rfl,rfl⟩⟩;unfold cR;rw[<-hK,<-hK,q]
   ·cases a
   ·cases a
  ·unfold fg at h⊢;rw[i x hx]at h;exact⟨k,d,h,i4 _,Iff.rfl,fun _=>⟨rfl,rfl⟩⟩
 ·rintro x _ ⟨L,h⟩;refine⟨?_,rfl⟩
  by_cases hx:x=b
  ·subst hx;rw[e]at h;cases h;rcases hk with⟨f,g,t1,t2,c,a⟩|⟨_,_,_,_,_,_,a,_⟩|⟨_,_,_,_,_,a⟩|⟨_,_,_,_,a⟩<;>cases a
  ·rw[i x hx]at h;exact⟨L,h⟩
variable{o:Oper}{ρ:dp->AV}{base:Nat}
theorem GN{T:dq}{a x:dp}(p:o.op= .store T a x){e:dp->dl}{al off:Nat}{b:List dl}{d:Array dl}{f:dq}(j:e a= .pointer (some ⟨al,off,none⟩))
 (hx:(e x).cells.toList=b)(q:P.cellsOf T=b.length/\∃i,P.info? T=some i/\i.size=b.length)(k:w.heap[al]?=some (.cells d f (0,0)))(n:∀c∈b,c.oneCell'=true)(m:off+b.length<=d.size):
 (dx e o).run P w=.ok .skip (w.setRow al (d.toList.take off++b++d.toList.drop (off+b.length)).toArray):=by
 obtain⟨_,i,hi,l⟩:=q;have h:(sizeOf T).run P w=.ok b.length w:=by simp[sizeOf,typeInfo,hi,l]
 have g:=em (P:=P) al off f b 0 d w k (by simpa using m) n;simp only[i8]at g;have r:(e x).cells.size=b.length:=by rw[<-hx];simp
 simp only[dx,p,Instr.storeAt,j,gj];simp[storeVar,h,r,hx,g]
theorem AW(u:dq)(fs:List AV):ad (gO u fs)=.agg u:=by
 unfold gO;split<;>rfl
theorem Up{t:AV}{c:List (dq×Nat)}{x s d:AV}(hs:eL t c=some s)(a:fJ t c x=some d)(e:ad s=ad x):ad d=ad t:=by
 cases c with
 |nil=>
  simp only[fJ,j8]at a;subst a;have:s=t:=by
   cases t<;>simp[eL]at hs<;>exact hs.symm
  rw[<-e,this]
 |cons p r=>
  obtain⟨u,i⟩:=p;cases t<;>simp only[fJ]at a
  case p t=>
   split at a
   case isFalse=>simp at a
   rename_i b
   split at a
   case h_2=>simp at a
   split at a
   case h_2=>simp at a
   simp only[j8]at a;subst a;rw[AW];simp[ad,b]
  case st u' fs=>
   split at a
   case isFalse=>simp at a
   rename_i b
   split at a
   case h_2=>simp at a
   split at a
   case h_2=>simp at a
   simp only[j8]at a;subst a;rw[AW];simp[ad,b]
  all_goals simp at a
theorem VD{T:dq}{a x:dp}(z:o.op= .store T a x){H0:aj}{K:aS->Prop}(h:mX P T H0 (ρ a) (ρ x) K):
 ∃e,K e/\bn P o ρ base e/\(∀p∈e.ak,H0[p.1]?=some p.2)/\(∀p∈e.aI,p.1<H0.length/\p.2≠.hole):=by
 unfold mX at h;obtain⟨hk,ac,h⟩:=h
 split at h
 ·rename_i b aq N
  split at h
  case h_2=>exact h.elim
  rename_i t B
  split at h
  case h_2=>exact h.elim
  rename_i s j hs r;obtain⟨J,h⟩:=h;refine⟨_,h,?_,by simpa using B,by simpa using(hD.1 B).1⟩;intro H w aa ah β f l D ak _;have d:H[b]?=some (.box false t):=by simpa using ak
  obtain⟨g,_⟩:=D a (by simp[z,g7]);obtain⟨ab,M⟩:=D x (by simp[z,g7]);rw[N]at g;simp only[aw,bJ,bM]at g;obtain⟨_,am,Z,L,W,U,g⟩:=g;obtain⟨rfl,rfl⟩:=g (.inl ⟨false,t,d⟩);obtain⟨cs,A,k1,k2,k3,k4⟩:=l.cr b _ d;obtain⟨pre,xs,post,e1,e2,e3,e4⟩:=od k2 hs U;have m:=wT ab ac;have q:(f x).cells.toList.length=xs.length:=by rw[(mS m).1,(mS e3).1,J]
  have ae:cs.size=pre.length+xs.length+post.length:=by
   have:=congrArg hX e1;simp at this;omega
  have C:=GN z W rfl (wx hk m) k1 (xI m) (by omega);have aQ:(cs.toList.take Z++(f x).cells.toList++cs.toList.drop (Z+(f x).cells.toList.length))=pre++(f x).cells.toList++post:=by
   rw[e1,q,<-e2];simp
  rw[aQ]at C;have aK:cd β H β (H.set b (.box false j)):=nY d (.inl ⟨_,_,_,_,rfl,rfl⟩);have Q:∀y,aF H y->aF (H.set b (.box false j)) y:=ly d (fun _ h=>h);have X:∀k,aa k->(w.setRow (β.al b) (pre++(f x).cells.toList++post).toArray).heap[k]?=w.heap[k]?:=fun k S=>eb w _ k _ (fun O=>k3.1 (O▸S));have V:=o9 l d trivial (o':=.box false j) trivial (fun _ h=>h) k1 (new:=(pre++(f x).cells.toList++post).toArray) k3 aK
   ⟨_,A,ed w _ _ _ A _ k1,bh.mono (fun _ x=>x) X aK _ _ (ua r (l.refs b _ d) M) (e4 _ _ _ r m q),k3,by simp,by rw[Up hs r J];exact k4.2⟩
   (aD.mono Q _ (ua r (l.refs b _ d) M))
  exact⟨_,_,_,β,aa,C,.inr ⟨rfl,rfl⟩,V,by simp[aw,aB,bE,undef],by simp[aD]⟩
 ·rename_i b ar ai i aq N
  split at h
  case h_2=>exact h.elim
  rename_i k aE aA n B;obtain⟨rfl,rfl,ag,hi,h⟩:=h
  split at h
  case h_2=>exact h.elim
  rename_i s j hs r;obtain⟨J,h⟩:=h;refine⟨_,h,?_,by simpa using B,by simpa using(hD.1 B).1⟩;intro H w aa ah β f l D ak _;have d:H[b]?=some (.arr k ar ai n):=by simpa using ak
  obtain⟨g,_⟩:=D a (by simp[z,g7]);obtain⟨ab,M⟩:=D x (by simp[z,g7]);rw[N]at g;simp only[aw,bJ,bM]at g;have I:¬cR k n:=fun G=>by rw[G.2]at hi;simp at hi
  obtain⟨_,am,Z,L,W,U,g⟩:=g;obtain⟨rfl,rfl⟩:=g k n d I;rcases l.cr b _ d with hold|⟨cs,A,az,rest,k1,k2,k3,k4,k5,k6,k7,k8⟩
  ·exact(I hold).elim
  have af:¬aa (β.al b)/\¬ah (β.al b):=by
   unfold cm at k7;rw[if_neg (by simpa using ag)]at k7;exact k7
  obtain⟨u,c,F,au,av,aC,ax,ay⟩:=yf k2 hi;obtain⟨pre,xs,post,e1,e2,e3,e4⟩:=od ax hs U;have m:=wT ab ac;have q:(f x).cells.toList.length=xs.length:=by rw[(mS m).1,(mS e3).1,J]
  have ad:cs.toList=(u++pre)++xs++(post++F++rest):=by rw[k3,au,e1];simp
  have ae:cs.size=(u++pre).length+xs.length+(post++F++rest).length:=by
   have:=congrArg hX ad;simp at this⊢;omega
  have ap:(u++pre).length=i*ai+L:=by simp[av,e2]
  have C:=GN z W rfl (wx hk m) k1 (xI m) (by omega);have aQ:(cs.toList.take (i*ai+L)++(f x).cells.toList++cs.toList.drop (i*ai+L+(f x).cells.toList.length))=(u++pre)++(f x).cells.toList++(post++F++rest):=by
   rw[ad,q,<-ap,hL (u++pre),List.take_left',List.drop_append,hL]
   ·simp
   ·rfl
  rw[aQ]at C;obtain⟨an,c1,c2⟩:=ay j _ (e4 _ _ _ r m q) (by rw[e1];simp[q]);have aK:cd β H β (H.set b (.arr k ar ai (n.set i j))):=nY d (.inr (.inl ⟨_,_,_,_,_,rfl,rfl,by simp⟩));have Q:∀y,aF H y->aF (H.set b (.arr k ar ai (n.set i j))) y:=ly d (fun _ h=>h);have ao:¬cR k (n.set i j):=fun G=>I ⟨G.1,by have:=G.2;rw[List.set_eq_nil_iff]at this;exact this⟩;have al:aU (aF H) (n.set i j):=by
   rw[cK];intro v Y;rcases h6 Y with Y|rfl
   ·exact cK.1 (l.refs b _ d) v Y
   ·exact ua r (cK.1 (l.refs b _ d) _ (ip hi)) M
  have X:∀E,aa E->(w.setRow (β.al b) ((u++pre)++(f x).cells.toList++(post++F++rest)).toArray).heap[E]?=w.heap[E]?:=fun E S=>eb w _ E _ (fun O=>af.1 (O▸S));have V:=o9 l d I (o':=.arr k ar ai (n.set i j)) ao (fun _ h=>h) k1 (new:=((u++pre)++(f x).cells.toList++(post++F++rest)).toArray) af aK
   (.inr ⟨_,A,an,rest,ed w _ _ _ A _ k1,bG.mono (fun _ x=>x) X aK _ _ _ al c2,by rw[c1];simp,by
    rw[<-k4,ae];simp[q];omega,by simpa using k5,fun R=>by rw[k6 R];simp,k7,(fun R=>(ag R).elim),k8.2⟩)
   (aU.mono Q _ al)
  exact⟨_,_,_,β,aa,C,.inr ⟨rfl,rfl⟩,V,by simp[aw,aB,bE,undef],by simp[aD]⟩
 ·exact h.elim
end
section
variable{P:dz}{w:dy}{aa ah:Nat->Prop}{β:Bd}{H:aj}
theorem Ad(P:dz)(T:dq):P.underlying T=(P.info? (P.underlyingId T)).map (fun i:ea=>i.desc):=by
 unfold hl hm;cases hi:P.info? T with
 |none=>simp[hi]
 |some i=>
  obtain⟨d,_,_,_,_,_,_,_,_,_⟩:=i;cases d<;>simp[hi]
theorem Aw{T u:dq}(h:kindOf P T=.agg u):u=P.underlyingId T/\(∃l,du P u=some l)/\P.cellsOf T=P.cellsOf u:=by
 unfold kindOf at h
 split at h
 ·split at h
  ·rename_i hc;simp at h;subst h;simp at hc;exact⟨rfl,j4.1 hc.1,hc.2⟩
  ·simp at h
 ·split at h
  ·rename_i hc;simp at h;subst h;simp at hc;exact⟨rfl,j4.1 hc.1,hc.2⟩
  ·simp at h
 ·split at h<;>simp at h
 ·simp at h
theorem tE{T u:dq}{n:Nat}(h:fw P T=some (u,n)):∃fs l,P.underlying T=some (.struct fs)/\fs.size=n/\kindOf P T= .agg u/\du P u=some l/\l.length=n/\
 ∀(i:Nat)(_hi:i<n),∃f,fs[i]?=some f/\f.offset=(l.take i).sum/\l[i]?=some (P.cellsOf f.type)/\0<P.cellsOf f.type/\(jg P u)[i]?=some f.type:=by
 unfold fw at h
 split at h
 case h_2=>simp at h
 rename_i u' fs hk c;simp at h;obtain⟨rfl,rfl⟩:=h;obtain⟨g,⟨l,a⟩,_⟩:=Aw hk;refine⟨fs,l,c,rfl,hk,a,?_⟩;have b:(P.info? u').map (fun i:ea=>i.desc)=some (.struct fs):=by rw[g,<-Ad,c]
 unfold du at a;rw[b]at a;dsimp only at a
 split at a
 case isFalse=>simp at a
 rename_i hc;simp at a;simp only[dg,List.all_eq_true,decide_eq_true_eq,beq_iff_eq]at hc;obtain⟨⟨d,j⟩,e⟩:=hc;subst a;refine⟨by simp,fun i hi=>?_⟩;refine⟨fs[i],by simp[hi],?_,by simp[hi],?_,?_⟩
 ·have:=e (fs[i],i) (by rw[List.mem_iff_getElem?];exact⟨i,by simp[hi]⟩);simpa using this
 ·have:=d (P.cellsOf fs[i].type) (by simp;exact⟨fs[i],by simp,rfl⟩);exact this
 ·unfold jg;rw[b];simp[hi]
theorem tQ{T u:dq}{n:Nat}(h:gT P T=some (u,n)):∃e,P.underlying T=some (.array n e)/\kindOf P T=.agg u/\du P u=some (hF n (P.cellsOf e))/\0<P.cellsOf e:=by
 unfold gT at h
 split at h
 case h_2=>simp at h
 rename_i u' g e hk b;simp at h;obtain⟨rfl,rfl⟩:=h;obtain⟨d,⟨l,a⟩,_⟩:=Aw hk;have c:(P.info? u').map (fun i:ea=>i.desc)=some (.array g e):=by rw[d,<-Ad,b]
 have f:=a;unfold du at a;rw[c]at a;dsimp only at a
 split at a
 case isFalse=>simp at a
 rename_i hc;simp at a hc;exact⟨e,b,hk,by rw[f,a],hc.1⟩
theorem wy{p q:List (dq×Nat)}{a b:Nat}(c:fS P p=some a)(f:fS P q=some b):fS P (p++q)=some (a+b):=by
 induction p generalizing a with
 |nil=>simp[fS]at c;subst c;simpa using f
 |cons x p g=>
  obtain⟨u,i⟩:=x;simp only[fS]at c;cases d:du P u with
  |none=>simp[d]at c
  |some l=>
   cases e:fS P p with
   |none=>simp[d,e]at c
   |some a'=>
    simp[d,e]at c;obtain⟨hi,rfl⟩:=c;simp only[List.cons_append,fS,d,g e,if_pos hi];congr 1;omega
theorem wE{u:dq}{i:Nat}{l:List Nat}(a:du P u=some l)(hi:i<l.length):fS P [(u,i)]=some (l.take i).sum:=by
 simp[fS,a,hi]
variable{o:Oper}{ρ:dp->AV}{base:Nat}
theorem jR(al off n:Nat):(⟨al,off,none⟩:Addr).add n=⟨al,off+n,none⟩:=by unfold Addr.add;split<;>simp_all
theorem Q8{T:dq}{a:dp}{f:Nat}(v:o.op= .fieldAddr T a f){K:aS->Prop}(h:mO P T (ρ a) f K):
 ∃e,K e/\bn P o ρ base e/\e.ak=[]/\e.aI=[]:=by
 unfold mO at h
 split at h
 case h_2=>exact h.elim
 rename_i u n aK;obtain⟨hf,h⟩:=h;obtain⟨fs,l,L,x,hk,G,O,E⟩:=tE aK;obtain⟨fd,g1,g2,g3,g4,g5⟩:=E f hf;have z:=wE G (by omega:f<l.length);have B:∀(w:dy)(d:dp->dl)(al off:Nat),d a=.pointer (some ⟨al,off,none⟩)->(dx d o).run P w=.ok (.value (.pointer (some ⟨al,off+(l.take f).sum,none⟩))) w:=by
  intro w d al off m;obtain⟨i,hi⟩:∃i,P.info? fd.type=some i:=by
   cases hi:P.info? fd.type with
   |none=>simp[hj,hi]at g4
   |some i=>exact⟨i,rfl⟩
  have J:(sizeOf fd.type).run P w=.ok (P.cellsOf fd.type) w:=by simp[sizeOf,typeInfo,hi,hj]
  simp only[dx,v];refine eM ?_;have I:¬P.cellsOf fd.type=0:=by omega
  simp[Instr.fieldAt,dk L,g1,m,gj,fieldPlace,J,I,jR,g2]
 split at h
 ·rename_i b N m;refine⟨_,h,bn.same fun H w aa ah β d D r _=>?_,rfl,rfl⟩;obtain⟨c,j⟩:=r a (by simp[v,g7]);rw[m]at c j;simp only[aw,bJ,bM,aD]at c j;obtain⟨_,al,off,M,A,y,p⟩:=c;refine⟨_,B w d _ _ A,?_,by simpa[aD]using j⟩;simp only[aw,bJ,bM];exact⟨rfl,_,_,_,rfl,wy y z,fun q=>⟨(p q).1,by rw[(p q).2]⟩⟩
 ·rename_i b ar ai i N m;refine⟨_,h,bn.same fun H w aa ah β d D r _=>?_,rfl,rfl⟩;obtain⟨c,j⟩:=r a (by simp[v,g7]);rw[m]at c j;simp only[aw,bJ,bM,aD]at c j;obtain⟨_,al,off,M,A,y,p⟩:=c;refine⟨_,B w d _ _ A,?_,by simpa[aD]using j⟩;simp only[aw,bJ,bM];exact⟨rfl,_,_,_,rfl,wy y z,fun k C q x=>⟨(p k C q x).1,by rw[(p k C q x).2];omega⟩⟩
 ·rename_i t m;obtain⟨hs,h⟩:=h
  split at h
  case h_2=>exact h.elim
  rename_i g F;refine⟨_,h,?_,rfl,rfl⟩;refine bn.same fun H w aa ah β d D r _=>?_;obtain⟨c,_⟩:=r a (by simp[v,g7]);rw[m]at c;simp only[aw,aB]at c;obtain⟨al,off,Q,k1,k2,k3,k4⟩:=c;refine⟨_,B w d _ _ k4,?_,by simp[aD]⟩;obtain⟨pre,xs,post,e1,e2,e3⟩:=xt (path:=[(u,f)]) (s:=g) k1 (by simp[kn,hs,F]) z;simp only[aw,aB];refine⟨al,off+(l.take f).sum,xs,e3,k2,?_,rfl⟩;intro i hi;have:=k3 (pre.length+i) (by rw[e1];simp;omega);rw[<-e2,jp,this];congr 1;simp only[e1,hL];rw[h7 (by omega)];simp only[i9];rw[h8 hi]
 ·exact h.elim
end
section
variable{P:dz}{w:dy}{aa ah:Nat->Prop}{β:Bd}{H:aj}
variable{o:Oper}{ρ:dp->AV}{base:Nat}
theorem ry{al off:Nat}{a pre xs post:List dl}(h:gB w al off a)(e:a=pre++xs++post):gB w al (off+pre.length) xs:=by
 intro i hi;have:=h (pre.length+i) (by rw[e];simp;omega);rw[jp,this];congr 1;simp only[e,hL];rw[h7 (by omega)];simp only[i9];rw[h8 hi]
structure pq(P:dz)(T:dq)(sz:Nat)(e:dq)(i:ea):Prop where
 gd:P.underlying T=some (.slice e)
 info:P.info? e=some i
 size:i.size=sz
 pos:0<sz
 bytes:i.bytes<32768
 aHM:0<i.bytes
 oY:ey P T=e
theorem jM{T:dq}{sz:Nat}(h:cz P T=some sz):∃e i,pq P T sz e i:=by
 unfold cz at h
 split at h
 case h_2=>simp at h
 rename_i e a
 split at h
 case h_2=>simp at h
 rename_i i hi
 split at h
 case isFalse=>simp at h
 rename_i hc;simp at h;subst h;exact⟨e,i,a,hi,rfl,hc.2.1,hc.1,hc.2.2,by simp[ey,a]⟩
theorem pq.run{T:dq}{sz:Nat}{e:dq}{i:ea}(h:pq P T sz e i)(w:dy):(sizeOf e).run P w=.ok sz w:=by
 simp[sizeOf,typeInfo,h.info,h.size]
theorem Q7{T:dq}{x S:dp}(B:o.op= .indexAddr T x S){H0:aj}{K:aS->Prop}(h:mN P T H0 (ρ x) (ρ S) K):
 ∃e,K e/\bn P o ρ base e/\(∀p∈e.ak,H0[p.1]?=some p.2)/\e.aI=[]:=by
 unfold mN at h
 split at h
 case h_2=>exact h.elim
 rename_i au n an;obtain⟨C,h⟩:=h;have E:x∈o.op.operands:=by simp[B,g7]
 have ao:S∈o.op.operands:=by simp[B,g7]
 have D:∀{H:aj}{w:dy}{aa:Nat->Prop}{β:Bd}{z:dp->dl},(∀y∈o.op.operands,aw P w aa β H (ρ y) (z y)/\aD (aF H) (ρ y))->z S=.int au n:=by
  intro H w aa β z f;have:=(f S ao).1;rw[an]at this;simpa[aw,aB]using this
 split at h
 ·
  rename_i full d hx;obtain⟨j,r,h⟩:=h;obtain⟨e,ag,A⟩:=jM r;refine⟨_,h,bn.same fun H w aa ah β z O f _=>?_,by simp,rfl⟩;obtain⟨a,_⟩:=f x E;rw[hx]at a;simp only[aw,aB]at a;obtain⟨al,off,cap,ai,V,k1,k2,k3,k4,k5,sp,ab,k6⟩:=a;obtain rfl:sp=none:=ab.resolve_right (by omega);have Z:Row P w aa ⟨id,id⟩ [] ai (d.map .p) V:=lx.2 k1;obtain⟨pre,c,post,ac,ad,ae,U,_⟩:=yf Z (i:=n.toNat) (by simpa using j);have M:aV P w aa d[n.toNat] c:=by
   have:(d.map AV.p)[n.toNat]'(by simpa using j)=.p d[n.toNat]:=by simp
   rw[this]at U;simpa only[bh]using U
  have W:bA P (aJ d[n.toNat])=ai:=by rw[<-(nX M).1,ae]
  refine⟨.pointer (some ⟨al,off+n.toNat*ai,none⟩),?_,?_,by simp[aD]⟩
  ·simp only[dx,B];refine eM ?_;have q:n<(d.length:Int):=by omega
   simp[gt,D f,asIntOf,dk A.gd,k6,C,q,A.run,W,jR]
  ·simp only[aw,aB];refine⟨al,off+n.toNat*ai,c,M,k2 (by intro F;rw[F]at j;simp at j),?_,rfl⟩;rw[<-ad];exact ry k3 ac
 ·
  rename_i d hx;obtain⟨j,r,h⟩:=h;obtain⟨e,ag,A⟩:=jM r;refine⟨_,h,bn.same fun H w aa ah β z O f _=>?_,by simp,rfl⟩;obtain⟨a,_⟩:=f x E;rw[hx]at a;simp only[aw,aB]at a;rcases a with⟨rfl,_⟩|⟨al,off,cap,ai,V,k1,k2,k3,k5,sp,ab,k6⟩
  ·simp at j
  obtain rfl:sp=none:=ab.resolve_right (by omega);have Z:Row P w aa ⟨id,id⟩ [] ai (d.map .p) V:=lx.2 k1;obtain⟨pre,c,post,ac,ad,ae,U,_⟩:=yf Z (i:=n.toNat) (by simpa using j);have M:aV P w aa d[n.toNat] c:=by
   have:(d.map AV.p)[n.toNat]'(by simpa using j)=.p d[n.toNat]:=by simp
   rw[this]at U;simpa only[bh]using U
  have W:bA P (aJ d[n.toNat])=ai:=by rw[<-(nX M).1,ae]
  refine⟨.pointer (some ⟨al,off+n.toNat*ai,none⟩),?_,?_,by simp[aD]⟩
  ·simp only[dx,B];refine eM ?_;have q:n<(d.length:Int):=by omega
   simp[gt,D f,asIntOf,dk A.gd,k6,C,q,A.run,W,jR]
  ·simp only[aw,aB];refine⟨al,off+n.toNat*ai,c,M,k2 (by intro F;rw[F]at j;simp at j),?_,rfl⟩;rw[<-ad];exact ry k3 ac
 ·
  rename_i b ar ai off len hx;obtain⟨r,j,h⟩:=h;obtain⟨e,ag,A⟩:=jM r
  split at h
  case h_2=>exact h.elim
  rename_i k aG az d aq;obtain⟨rfl,rfl,ap,h⟩:=h;refine⟨_,h,bn.same fun H w aa ah β z O f ak=>?_,by simpa using aq,rfl⟩;obtain⟨a,l⟩:=f x E;rw[hx]at a l;simp only[aw,bJ,bM,aD]at a l;have af:H[b]?=some (.arr k ar ai d):=by simpa using ak
  obtain⟨g1,g2,g3⟩:=a.2 k d af;have g3:=g3 ap;refine⟨.pointer (some ⟨β.al b,off*ai+n.toNat*ai,none⟩),?_,?_,by simpa[aD]using l⟩
  ·simp only[dx,B];refine eM ?_;have q:n<(len:Int):=by omega
   simp[gt,D f,asIntOf,dk A.gd,g3,C,q,A.run,jR]
  ·simp only[aw,bJ,bM];refine⟨rfl,_,_,0,rfl,rfl,fun aC ay v aA=>?_⟩;unfold fg at v;rw[af]at v;cases v;exact⟨rfl,by rw[i7];simp⟩
 ·
  rename_i b ax hx
  split at h
  case h_2=>exact h.elim
  rename_i u m G;obtain⟨j,h⟩:=h;obtain⟨e,R,hk,I,N⟩:=tQ G;refine⟨_,h,bn.same fun H w aa ah β z O f _=>?_,by simp,rfl⟩;obtain⟨a,l⟩:=f x E;rw[hx]at a l;simp only[aw,bJ,bM,aD]at a l;obtain⟨_,al,off,av,Y,X,v⟩:=a;have L:=wE I (i:=n.toNat) (by simpa using j);have Q:((hF m (P.cellsOf e)).take n.toNat).sum=n.toNat*P.cellsOf e:=by rw[hJ,i6 (by omega),hH]
  have r:(sizeOf e).run P w=.ok (P.cellsOf e) w:=by
   cases hi:P.info? e with
   |none=>simp[hj,hi]at N
   |some i=>simp[sizeOf,typeInfo,hi,hj]
  refine⟨.pointer (some ⟨al,off+n.toNat*P.cellsOf e,none⟩),?_,?_,by simpa[aD]using l⟩
  ·simp only[dx,B];refine eM ?_;have q:n<(m:Int):=by omega
   simp[gt,D f,asIntOf,dk R,Y,gj,C,q,r,jR]
  ·simp only[aw,bJ,bM];exact⟨rfl,_,_,_,rfl,wy X L,fun J=>⟨(v J).1,by rw[(v J).2,Q]⟩⟩
 ·rename_i b ar ai i ax hx
  split at h
  case h_2=>exact h.elim
  rename_i u m G;obtain⟨j,h⟩:=h;obtain⟨e,R,hk,I,N⟩:=tQ G;refine⟨_,h,bn.same fun H w aa ah β z O f _=>?_,by simp,rfl⟩;obtain⟨a,l⟩:=f x E;rw[hx]at a l;simp only[aw,bJ,bM,aD]at a l;obtain⟨_,al,off,av,Y,X,v⟩:=a;have L:=wE I (i:=n.toNat) (by simpa using j);have Q:((hF m (P.cellsOf e)).take n.toNat).sum=n.toNat*P.cellsOf e:=by rw[hJ,i6 (by omega),hH]
  have r:(sizeOf e).run P w=.ok (P.cellsOf e) w:=by
   cases hi:P.info? e with
   |none=>simp[hj,hi]at N
   |some i=>simp[sizeOf,typeInfo,hi,hj]
  refine⟨.pointer (some ⟨al,off+n.toNat*P.cellsOf e,none⟩),?_,?_,by simpa[aD]using l⟩
  ·simp only[dx,B];refine eM ?_;have q:n<(m:Int):=by omega
   simp[gt,D f,asIntOf,dk R,Y,gj,C,q,r,jR]
  ·simp only[aw,bJ,bM];exact⟨rfl,_,_,_,rfl,wy X L,fun k d J F=>⟨(v k d J F).1,by rw[(v k d J F).2,Q];omega⟩⟩
 ·rename_i t hx
  split at h
  case h_2=>exact h.elim
  rename_i u m G;obtain⟨hs,j,h⟩:=h
  split at h
  case h_2=>exact h.elim
  rename_i g am;obtain⟨e,R,hk,I,N⟩:=tQ G;refine⟨_,h,bn.same fun H w aa ah β z O f _=>?_,by simp,rfl⟩;obtain⟨a,_⟩:=f x E;rw[hx]at a;simp only[aw,aB]at a;obtain⟨al,off,aE,k1,k2,k3,k4⟩:=a;have L:=wE I (i:=n.toNat) (by simpa using j);have Q:((hF m (P.cellsOf e)).take n.toNat).sum=n.toNat*P.cellsOf e:=by rw[hJ,i6 (by omega),hH]
  have r:(sizeOf e).run P w=.ok (P.cellsOf e) w:=by
   cases hi:P.info? e with
   |none=>simp[hj,hi]at N
   |some i=>simp[sizeOf,typeInfo,hi,hj]
  obtain⟨pre,xs,post,e1,e2,e3⟩:=xt (path:=[(u,n.toNat)]) (s:=g) k1 (by simp[kn,hs,am]) L;refine⟨.pointer (some ⟨al,off+n.toNat*P.cellsOf e,none⟩),?_,?_,by simp[aD]⟩
  ·simp only[dx,B];refine eM ?_;have q:n<(m:Int):=by omega
   simp[gt,D f,asIntOf,dk R,k4,gj,C,q,r,jR]
  ·simp only[aw,aB];refine⟨al,_,xs,e3,k2,?_,rfl⟩;rw[<-Q,<-e2];exact ry k3 e1
 ·exact h.elim
theorem aGo{bs:ByteArray}{s:List Nat}(h:s=bs.data.toList.map (·.toNat)){i:Nat}(hi:i<s.length):∃b:UInt8,bs[i]?=some b/\b.toNat=s[i]:=by
 subst h;have a:i<bs.size:=by simpa using hi
 refine⟨bs[i],by simp[a],?_⟩;simp only[List.getElem_map,cx];rfl
theorem Sb{T:dq}{x f:dp}{s:List Nat}{k:en}{n:Int}(e:o.op= .index T x f)(hx:ρ x= .p (.str s))(hi:ρ f= .p (.int k n))(d:ia P T=true)(i:0<=n)(g:n.toNat<s.length):
 bn P o ρ base {v:=.p (.int .u8 (s[n.toNat]'g))}:=by
 refine bn.same fun H w aa ah β m l h _=>?_;have a:=(h x (by simp[e,g7])).1;have c:=(h f (by simp[e,g7])).1;rw[hx]at a;rw[hi]at c;simp only[aw,aB]at a c;obtain⟨bs,e1,e2⟩:=a;obtain⟨b,g1,g2⟩:=aGo e2 g;have j:P.underlying T=some .string:=by
  unfold ia at d
  split at d
  ·assumption
  ·simp at d
 refine⟨.int .u8 b.toNat,?_,by simp[aw,aB,g2],by simp[aD]⟩;simp only[dx,e,e1,c];refine eM ?_;simp[Instr.index,asIntOf,dk j,i,g1]
theorem Sz{S D:dq}{x:dp}{k k0:en}{n:Int}(b:o.op= .convert S D x)(e:∃d,P.underlying S=some d)(c:P.underlying D=some (.int k))(hx:ρ x= .p (.int k0 n)):
 bn P o ρ base {v:=.p (.int k (k.wrap n))}:=by
 refine bn.same fun H w aa ah β i h g _=>?_;have a:=(g x (by simp[b,g7])).1;rw[hx]at a;simp only[aw,aB]at a;obtain⟨d,f⟩:=e;refine⟨.int k (k.wrap n),?_,by simp[aw,aB],by simp[aD]⟩;simp only[dx,b,a];refine eM ?_;simp[convert,dk f,dk c,Conv.intToInt]
theorem Sy{S D:dq}{x:dp}{s:List Nat}(b:o.op= .convert S D x)(e:∃d,P.underlying S=some d)(c:P.underlying D=some .string)(hx:ρ x= .p (.str s)):
 bn P o ρ base {v:=.p (.str s)}:=by
 refine bn.same fun H w aa ah β i h g _=>?_;have a:=(g x (by simp[b,g7])).1;rw[hx]at a;simp only[aw,aB]at a;obtain⟨bs,e1,e2⟩:=a;obtain⟨d,f⟩:=e;refine⟨.string bs,?_,by simp only[aw,aB];exact⟨bs,rfl,e2⟩,by simp[aD]⟩;simp only[dx,b,e1];refine eM ?_;simp only[convert,hp,dk f,dk c,ho];cases d<;>simp
theorem Tq{b ar ai off len:Nat}{k:AK}{d:List AV}{v:dl}(h:aw P w aa β H (.sl b ar ai off len) v)(j:H[b]?=some (.arr k ar ai d)):∃a c,v=.slice a len c:=by
 simp only[aw,bJ,bM]at h;obtain⟨f,g,i⟩:=h.2 k d j
 by_cases e:cR k d
 ·rw[g e];have:len=0:=by rw[e.2]at f;simp at f;omega
  subst this;exact⟨_,_,rfl⟩
 ·exact⟨_,_,i e⟩
theorem AF:∀{b:List (PV×PV)}{a:List MapEntry},cq P w aa b a->a.length=b.length
 |[],a,h=>by simp only[cq]at h;subst h;rfl
 |(k,v)::r,a,h=>by
  simp only[cq]at h;obtain⟨e,rest,rfl,d,f,c⟩:=h;simp[AF c]
theorem aFi{c:Call}{x:dp}{n:Nat}{ak:List (Nat×Obj)}{H0:aj}(G:o.op= .call c)(hc:c.callee= .builtin .len)(E:c.args.toList=[x])(i:lenOf H0 (ρ x)=some (n,ak))(d:gI P (c.argTypes.getD 0 0) (ρ x)=true)(O:0<c.argTypes.size):
 bn P o ρ base {v:=.p (.int .i64 n),ak}/\(∀p∈ak,H0[p.1]?=some p.2):=by
 have u:x∈o.op.operands:=by
  rw[G];simp only[g7,Call.operands,hc];simp;rw[<-Array.mem_toList_iff,E];simp
 have J:c.args=#[x]:=by apply b5;simpa using E
 have q:c.argTypes[0]?=some (c.argTypes.getD 0 0):=by simp[Array.getD,O]
 have t:∀{H:aj}{w:dy}{aa:Nat->Prop}{β:Bd}{m:dp->dl},((fl c.argTypes o.type #[m x]).run P w= .ok (goInt n) w)->
  ∃D,(dx m o).run P w=.ok (.value D) w/\aw P w aa β H (.p (.int .i64 n)) D/\aD (aF H) (.p (.int .i64 n)):=by
  intro H w aa β m L;refine⟨goInt n,?_,by simp[aw,aB,goInt],by simp[aD]⟩;simp only[dx,G,resolve,hc,J];simp[invoke,builtin,L]
 have N:∀T:dq,ia P T=true->P.underlying T=some .string:=by
  intro T h;unfold ia at h
  split at h
  ·assumption
  ·simp at h
 generalize R:c.argTypes.getD 0 0=T at*;unfold lenOf at i
 split at i
 ·rename_i s hx;simp at i;obtain⟨rfl,rfl⟩:=i;rw[hx]at d;simp only[gI]at d;refine⟨bn.same fun H w aa ah β m y j _=>t ?_,by simp⟩;have g:=(j x u).1;rw[hx]at g;simp only[aw,aB]at g;obtain⟨bs,e1,e2⟩:=g;have hs:s.length=bs.size:=by rw[e2];simp
  simp[fl,q,dk (N _ d),e1,hs]
 ·rename_i hx;simp at i;obtain⟨rfl,rfl⟩:=i;rw[hx]at d;refine⟨bn.same fun H w aa ah β m y j _=>t ?_,by simp⟩;have g:=(j x u).1;rw[hx]at g;simp only[aw,aB]at g;simp only[gI]at d
  split at d
  ·rename_i e l;simp[fl,q,dk l,g]
  ·simp at d
 ·rename_i hx;simp at i;obtain⟨rfl,rfl⟩:=i;rw[hx]at d;refine⟨bn.same fun H w aa ah β m y j _=>t ?_,by simp⟩;have g:=(j x u).1;rw[hx]at g;simp only[aw,aB]at g;simp only[gI]at d
  split at d
  ·rename_i k e l;simp[fl,q,dk l,g]
  ·simp at d
 ·rename_i f z hx;simp at i;obtain⟨rfl,rfl⟩:=i;rw[hx]at d;refine⟨bn.same fun H w aa ah β m y j _=>t ?_,by simp⟩;have g:=(j x u).1;rw[hx]at g;simp only[aw,aB]at g;obtain⟨al,off,cap,ai,I,k1,k2,k3,k4,k5,sp,M,k6⟩:=g;simp only[gI]at d
  split at d
  ·rename_i e l;simp[fl,q,dk l,k6]
  ·simp at d
 ·rename_i z hx;simp at i;obtain⟨rfl,rfl⟩:=i;rw[hx]at d;refine⟨bn.same fun H w aa ah β m y j _=>t ?_,by simp⟩;have g:=(j x u).1;rw[hx]at g;simp only[aw,aB]at g;simp only[gI]at d
  split at d
  ·rename_i e l;rcases g with⟨rfl,k6⟩|⟨al,off,cap,ai,I,k1,k2,k3,k5,sp,M,k6⟩
   ·simp[fl,q,dk l,k6]
   ·simp[fl,q,dk l,k6]
  ·simp at d
 ·rename_i z hx;simp at i;obtain⟨rfl,rfl⟩:=i;rw[hx]at d;refine⟨bn.same fun H w aa ah β m y j _=>t ?_,by simp⟩;have g:=(j x u).1;rw[hx]at g;simp only[aw,aB]at g;obtain⟨r,A,clock,k1,k2,k3,k4⟩:=g;simp only[gI]at d
  split at d
  ·rename_i k e l;have:=AF k3;have B:(getObj r).run P w=.ok (.map A clock) w:=by simp[getObj,hv,k2]
   simp at this;simp[fl,q,dk l,k4,B,this]
  ·simp at d
 ·rename_i b ar ai off len hx
  split at i
  case h_2=>simp at i
  rename_i k S Q z C
  split at i
  case isFalse=>simp at i
  rename_i K;obtain⟨rfl,rfl⟩:=K;simp at i;obtain⟨rfl,rfl⟩:=i;rw[hx]at d;refine⟨bn.same fun H w aa ah β m y j ak=>t ?_,by simpa using C⟩;have g:=(j x u).1;rw[hx]at g;obtain⟨a,cp,e1⟩:=Tq g (by simpa using ak);simp only[gI]at d
  split at d
  ·rename_i e l;simp[fl,q,dk l,e1]
  ·simp at d
 ·rename_i b hx
  split at i
  case h_2=>simp at i
  rename_i fz z C;simp at i;obtain⟨rfl,rfl⟩:=i;rw[hx]at d;refine⟨bn.same fun H w aa ah β m y j ak=>t ?_,by simpa using C⟩;have g:=(j x u).1;rw[hx]at g;simp only[aw,bJ,bM]at g;have F:H[b]?=some (.map fz z):=by simpa using ak
  obtain⟨A,clock,k2,k3,_⟩:=y.cr b _ F;have e1:=g.2.1 ⟨fz,z,F⟩;simp only[gI]at d
  split at d
  ·rename_i k e l;have:=AF k3;have B:(getObj (β.al b)).run P w=.ok (.map A clock) w:=by simp[getObj,hv,k2]
   simp at this;simp[fl,q,dk l,e1,B,this]
  ·simp at d
 ·simp at i
end
section
variable{P:dz}{w:dy}{aa ah:Nat->Prop}{β:Bd}{H:aj}
variable{o:Oper}{ρ:dp->AV}{base:Nat}
theorem IB:∀(a:List dl)(off j:Nat)(cells:Array dl),off+j+a.length<=cells.size->
 ((a.zipIdx j).foldl (fun cs(p:dl×Nat)=>cs.setIfInBounds (off+p.2) p.1) cells).toList=cells.toList.take (off+j)++a++cells.toList.drop (off+j+a.length)
 |[],off,j,cells,_=>by simp
 |x::a,off,j,cells,h=>by
  simp only[List.zipIdx_cons,List.foldl_cons];rw[IB a off (j+1) _ (by simp at h⊢;omega)];simp only[Array.toList_setIfInBounds,List.length_cons];have d:off+j<cells.toList.length:=by simp at h⊢;omega
  rw[show off+(j+1)=off+j+1 by omega];have b:(cells.toList.set (off+j) x).take (off+j+1)=cells.toList.take (off+j)++[x]:=by
   rw[List.take_succ_eq_append_getElem (by simpa using d)];rw[List.take_set_of_le (i4 _)];simp
  have c:(cells.toList.set (off+j) x).drop (off+j+1+a.length)=cells.toList.drop (off+j+(a.length+1)):=by
   rw[List.drop_set_of_lt (by omega)];congr 1;omega
  rw[b,c];simp
theorem Rp{a c post b:List dl}(h:b.length=c.length):((a++c++post).take a.length++b++(a++c++post).drop (a.length+b.length))=a++b++post:=by
 rw[h];simp
theorem AB{l:List Nat}{place:Nat->Option (Nat×Nat)}(s:∀i n,l[i]?=some n->place i=some ((l.take i).sum,n)):
 ∀{f:List (Nat×AV)}{j:List (Nat×dl)}{fs:List AV}{e:List (List dl)}{cells:Array dl},j.map kc=f.map kc->(∀i:Nat,aw P w aa β H (((f[i]?).map kb).getD (.p .undef)) (((j[i]?).map kb).getD undef))->
  lj P l f->bG P w aa β H l fs e->cells.toList=e.flatten->
  ∃g m,gy place cells j=some g/\bG P w aa β H l (gY fs f) m/\g.toList=m.flatten
 |[],[],fs,e,cells,_,_,_,h,hc=>⟨cells,e,rfl,h,hc⟩
 |[],_::_,_,_,_,b,_,_,_,_=>by simp at b
 |_::_,[],_,_,_,b,_,_,_,_=>by simp at b
 |(i,a)::f,(d,v)::j,fs,e,cells,b,t,o,h,hc=>by
  simp only[hU,List.cons.injEq]at b;obtain⟨rfl,b⟩:=b;simp only[lj]at o;obtain⟨⟨n,q,hs,B⟩,o⟩:=o;have G:aw P w aa β H a v:=by simpa using t 0
  have y:=fun k=>t (k+1);simp only[ih]at y;have L:=wA h;have K:d<l.length:=(hD.1 q).1;have C:d<fs.length:=by omega
  obtain⟨pre,c,post,e1,e2,e3,e4,e5,A⟩:=rR h (hO C);have J:c.length=n:=by rw[q]at e4;simpa using e4.symm
  have u:=wT G B;have x:v.cells.toList.length=n:=by rw[(mS u).1,hs]
  obtain⟨m,k1,k2⟩:=A a _ u (by omega);have F:cells.size=pre.length+c.length+post.length:=by
   have:=congrArg hX (hc.trans e1);simp at this;omega
  have I:v.cells.size=n:=by simpa using x
  obtain⟨ni,r⟩:∃ni,(v.cells.zipIdx.foldl (fun cs(p:dl×Nat)=>cs.setIfInBounds ((l.take d).sum+p.2) p.1) cells)=ni:=⟨_,rfl⟩
  have D:ni.toList=m.flatten:=by
   rw[<-r,k1];have:=IB v.cells.toList (l.take d).sum 0 cells (by rw[<-e2];simp at x⊢;omega);rw[<-c9];simp only[Array.toList_zipIdx];rw[this,hc,e1,i8,<-e2];exact Rp (by omega)
  obtain⟨g,z,g1,g2,g3⟩:=AB s b y o k2 D;refine⟨g,z,?_,by simpa only[gY]using g2,g3⟩;have E:¬(v.cells.size≠n\/(l.take d).sum+v.cells.size>cells.size):=by
   rw[I,F,<-e2];omega
  simp only[gy,s d n q];simp only[Bool.or_eq_true,decide_eq_true_eq,E,if_false];simp only[<-r]at g1;exact g1
end
section
variable{P:dz}{w:dy}{aa ah:Nat->Prop}{β:Bd}{H:aj}
variable{o:Oper}{ρ:dp->AV}{base:Nat}
theorem Fp{α γ:Type}(f:α->Sem γ)(g:α->γ)(w:dy):∀l:List α,(∀a∈l,(f a).run P w=.ok (g a) w)->(l.mapM f).run P w=.ok (l.map g) w
 |[],_=>by simp
 |a::l,h=>by
  simp only[i0,hp,h a (by simp),ho,Fp f g w l (fun b c=>h b (by simp[c])),hU];rfl
theorem QT{α γ:Type}(f:α->Sem γ)(g:α->γ)(w:dy)(a:Array α)(h:∀x∈a.toList,(f x).run P w=.ok (g x) w):(a.mapM f).run P w=.ok (a.toList.map g).toArray w:=by
 rw[cv,ht,Fp f g w _ h];rfl
theorem Hp{ρc:dp->dl}{parts:Array (Nat×dp)}(h:∀p∈parts.toList,aw P w aa β H (ρ p.2) (ρc p.2)):
 ((parts.map fun(i,x)=>(i,ρc x)).toList).map kc=(parts.toList.map fun(i,x)=>(i,ρ x)).map kc/\
 ∀i:Nat,aw P w aa β H ((((parts.toList.map fun(i,x)=>(i,ρ x))[i]?).map kb).getD (.p .undef)) ((((parts.map fun(i,x)=>(i,ρc x)).toList[i]?).map kb).getD undef):=by
 refine⟨by simp[Function.comp_def],fun i=>?_⟩;simp only[da,ik];cases a:parts.toList[i]? with
 |none=>simp[aw,aB]
 |some p=>simpa using h p (hW a)
theorem A6{S:Nat×Nat->Prop}:∀{b:List (Nat×AV)}{fs:List AV},aU S fs->(∀p∈b,aD S p.2)->aU S (gY fs b)
 |[],fs,h,_=>h
 |(i,v)::r,fs,h,a=>by
  simp only[gY];refine A6 ?_ (fun p c=>a p (by simp[c]));rw[cK]at h⊢;intro x hx;rcases h6 hx with hx|rfl
  ·exact h x hx
  ·exact a (i,x) (by simp)
theorem Hq{c:Array (Nat×dp)}{p:Nat×dp}(a:p∈c.toList):p.2∈((c.toList.map (·.2)).toArray:Array dp):=by
 simp;exact⟨p.1,by simpa using a⟩
theorem U0{T u:dq}{z:PV}{l:List Nat}{c:Array (Nat×dp)}(y:o.op= .build T c)(hk:kindOf P T= .agg u)(U:ch P T=some z)(s:du P u=some l)(hs:aJ z= .agg u)
 (O:lj P l (c.toList.map fun(i,x)=>(i,ρ x))):bn P o ρ base {v:=gO u (gY ((bV z).map .p) (c.toList.map fun(i,x)=>(i,ρ x)))}:=by
 obtain⟨i,ad,z1,z2,z3,z4⟩:=pf U;refine bn.same fun H w aa ah β m ai V _=>?_;have G:∀p∈c.toList,aw P w aa β H (ρ p.2) (m p.2)/\aD (aF H) (ρ p.2):=fun p g=>V p.2 (by rw[y];exact Hq g);obtain⟨X,Y⟩:=Hp (ρ:=ρ) (ρc:=m) (parts:=c) (fun p g=>(G p g).1);have I:=z3 w aa;obtain⟨fs,rfl⟩:∃fs,z=.st u fs:=by cases z<;>simp[aJ]at hs;subst hs;exact⟨_,rfl⟩
 simp only[aV]at I;obtain⟨W,ae,q1,Z,ab⟩:=I;rw[s]at q1;cases q1
 have E:∀A:Nat->Option (Nat×Nat),(∀i n,l[i]?=some n->A i=some ((l.take i).sum,n))->
  (∀cells,gy A ad.cells (c.map fun(i,x)=>(i,m x)).toList=some cells->(dx m o).run P w=.ok (.value (.agg cells)) w)->
  ∃C,(dx m o).run P w=.ok (.value C) w/\aw P w aa β H (gO u (gY ((bV (.st u fs)).map .p) (c.toList.map fun(i,x)=>(i,ρ x)))) C/\
   aD (aF H) (gO u (gY ((bV (.st u fs)).map .p) (c.toList.map fun(i,x)=>(i,ρ x)))):=by
  intro A Q S;obtain⟨L,M,g1,g2,g3⟩:=AB Q X Y O (mR.2 Z) ab;refine⟨.agg L,S _ g1,?_,Af (A6 (iF _ _) ?_)⟩
  ·rw[VN];simp only[aw];exact⟨l,M,s,g2,by rw[<-g3]⟩
  ·intro p g;simp only[i3]at g;obtain⟨q,hq,rfl⟩:=g;exact(G q hq).2
 have k:=hk;unfold kindOf at k
 split at k
 ·rename_i a d;have aK:fw P T=some (u,a.size):=by unfold fw;rw[hk,d]
  obtain⟨af,W,s1,s2,B,t,ac,J⟩:=tE aK;rw[d]at s1;cases s1;rw[s]at t;cases t;have R:(a.mapM fun f=>(do pure (f.offset,<-sizeOf f.type):Sem (Nat×Nat))).run P w=.ok (a.toList.map fun f:e7=>(f.offset,P.cellsOf f.type)).toArray w:=by
   refine QT _ _ w _ (fun f hf=>?_);obtain⟨j,r,rfl⟩:=List.mem_iff_getElem.1 hf;obtain⟨D,g1,g2,g3,g4,g5⟩:=J j (by simpa using r);have:a[j]'(by simpa using r)=D:=by
    have F:a[j]?=some (a[j]'(by simpa using r)):=Array.getElem?_eq_getElem (by simpa using r);rw[g1]at F;exact(j9 F).symm
   simp only[cx,this];simp[K g4]
  refine E (fun i=>(a.toList.map fun f:e7=>(f.offset,P.cellsOf f.type)).toArray[i]?) ?_ (fun cells hc=>?_)
  ·intro i n b;have hi:i<a.size:=by rw[<-ac];exact(hD.1 b).1
   obtain⟨D,g1,g2,g3,g4,g5⟩:=J i hi;rw[b]at g3;simp only[List.getElem?_toArray,ik,cb,g1];simp[g2,j9 g3]
  ·simp only[dx,y];refine eM ?_;simp only[g0,hp,rF z1 z2,ho,dk d,R,hc,hr]
 ·rename_i n e d;have N:gT P T=some (u,n):=by unfold gT;rw[hk,d]
  obtain⟨e',s1,s2,B,t⟩:=tQ N;rw[d]at s1;cases s1;rw[s]at B;cases B;refine E (fun i=>some (i*P.cellsOf e,P.cellsOf e)) ?_ (fun cells hc=>?_)
  ·intro i aj b;rw[hP]at b
   split at b
   ·rename_i ag;simp at b;subst b;rw[hJ,i6 (by omega),hH]
   ·simp at b
  ·simp only[dx,y];refine eM ?_;simp only[g0,hp,rF z1 z2,ho,dk d,K t,hc,hr]
 ·split at k<;>simp at k
 ·simp at k
where
 K {P:dz} {w:dy} {T:dq} (h:0<P.cellsOf T):(sizeOf T).run P w=.ok (P.cellsOf T) w:=by
  cases hi:P.info? T with
  |none=>simp[hj,hi]at h
  |some i=>simp[sizeOf,typeInfo,hi,hj]
theorem Am(a:Array dl)(n:Nat)(_h:0<a.size):((ce (n*a.size)).map (a[·%a.size]!)).toList=(hF n a.toList).flatten:=by
 simp only[da,Array.toList_range]
 induction n with
 |zero=>simp
 |succ n c=>
  rw[Nat.succ_mul,List.range_add,List.map_append,c,List.replicate_succ',h2];congr 1;simp only[List.map_map,hS,ix,hR];refine List.ext_getElem (by simp) (fun i b d=>?_);simp at b;simp[Nat.mul_add_mod_self_right,Nat.mod_eq_of_lt b,b,getElem!_pos]
theorem wz{z:PV}{a:List dl}(h:aV P w aa z a):∀n:Nat,Row P w aa β H a.length (hF n (.p z)) (hF n a)
 |0=>gR.2 rfl
 |n+1=>by
  rw[ii,ii,pA];exact⟨a,_,rfl,by simpa only[bh]using h,rfl,wz h n⟩
theorem Ar(d:bN P w aa β H ah){b:Nat}(c:H[b]?=some .hole){cells:Array dl}{T:dq}{k:AK}{ai cap:Nat}{a:List AV}{e:List (List dl)}{rest:List dl}(g:k≠ .frozen)(n:¬cR k a)
 (o:Row P w aa β H ai a e)(i:aU (aF H) a)(hc:cells.toList=e.flatten++rest)(p:cells.size=cap*ai)(m:a.length<=cap)(l:k=.exact->cap=a.length)(q:k=.bytes->T=Gl.u8):
 bP P ah aa w β H aa {w with heap:=w.heap.push (.cells cells T)} (β.at b w.heap.size cap) (H.set b (.arr k 0 ai a))/\
 aw P {w with heap:=w.heap.push (.cells cells T)} aa (β.at b w.heap.size cap) (H.set b (.arr k 0 ai a)) (.sl b 0 ai 0 a.length) (.slice (some ⟨w.heap.size,0,none⟩) a.length cap):=by
 have aK:=xd (β:=β) c (.arr k 0 ai a) w.heap.size cap;have ak:∀y,aF H y->aF (H.set b (.arr k 0 ai a)) y:=ly c (fun _ h=>h.elim);have j:=(hD.1 c).1;refine⟨rH (cap:=cap) d c (ob:=.cells cells T)
  (.inr ⟨cells,T,e,rest,by simp[Bd.at],bG.mono (fun _ x=>x) (fun k hk=>tN _ _ (d.bL k hk)) aK _ _ _ i o,hc,by simp[Bd.at,p],by simpa[Bd.at]using m,by simpa[Bd.at]using l,by
   unfold cm;rw[if_neg (by simpa using g)];simp only[Bd.at,if_true];exact⟨fun h=>i5 _ (d.bL _ h),fun h=>i5 _ (d.dY _ h)⟩,(fun h=>(g h).elim),q⟩) (aU.mono ak _ i),?_⟩
 simp only[aw,bJ,bM];refine⟨rfl,fun s r f=>?_⟩;unfold fg at f;rw[hE j]at f;cases f;exact⟨by omega,fun h=>(n h).elim,fun _=>by simp[Bd.at]⟩
theorem QW{T:dq}{n sz:Nat}{z:PV}{a:Array (Nat×dp)}(C:o.op= .buildSlice T n a)(b:cz P T=some sz)(W:ch P (ey P T)=some z)(hs:bA P (aJ z)=sz)(ad:n*sz<=1000000)
 (O:lj P (hF n sz) (a.toList.map fun(i,x)=>(i,ρ x))):
 bn P o ρ base {v:=.sl base 0 sz 0 n,aQ:=[.arr .exact 0 sz (gY (hF n (.p z)) (a.toList.map fun(i,x)=>(i,ρ x)))]}:=by
 obtain⟨e,af,b⟩:=jM b;obtain⟨i,f,z1,z2,z3,z4⟩:=pf W;rw[b.oY]at z1;intro H w aa ah β t Q Y _ M;have B:H[base]?=some .hole:=by simpa using M 0 (by simp)
 have D:∀p∈a.toList,aw P w aa β H (ρ p.2) (t p.2)/\aD (aF H) (ρ p.2):=fun p d=>Y p.2 (by rw[C];exact Hq d);obtain⟨Z,ab⟩:=Hp (ρ:=ρ) (ρc:=t) (parts:=a) (fun p d=>(D p d).1);have F:=z3 w aa;have s:f.cells.size=sz:=by have:=(nX F).1;simp at this;omega
 have r:=wz (β:=β) (H:=H) F n;have X:f.cells.toList.length=sz:=by simpa using s
 rw[X]at r;obtain⟨y,m⟩:∃c,c=(ce (n*sz)).map (f.cells[·%f.cells.size]!):=⟨_,rfl⟩
 have N:y.toList=(hF n f.cells.toList).flatten:=by
  rw[m,<-s];exact Am _ _ (by rw[s];exact b.pos)
 have S:bG P w aa β H (hF n sz) (hF n (.p z)) (hF n f.cells.toList):=by
  unfold Row at r;simpa using r
 obtain⟨u,I,g1,g2,g3⟩:=AB (place:=fun i=>some (i*sz,sz)) (by
  intro i ae j;rw[hP]at j
  split at j
  ·rename_i ac;simp at j;subst j;rw[hJ,i6 (by omega),hH]
  ·simp at j) Z ab O S N
 have l:(gY (hF n (.p z)) (a.toList.map fun(i,x)=>(i,ρ x))).length=n:=by
  have:=(wA g2).2.1;simpa using this
 have E:Row P w aa β H sz (gY (hF n (.p z)) (a.toList.map fun(i,x)=>(i,ρ x))) I:=by unfold Row;rw[l];exact g2
 have R:aU (aF H) (gY (hF n (.p z)) (a.toList.map fun(i,x)=>(i,ρ x))):=by
  refine A6 ?_ ?_
  ·rw[cK];intro v V;rw[h9 V];simp[aD]
  ·intro p d;simp only[i3]at d;obtain⟨q,hq,rfl⟩:=d;exact(D q hq).2
 have L:u.size=n*sz:=by
  have A:=(fH E).2;rw[l,<-g3]at A;simpa using A
 have U:(dx t o).run P w=.ok (.value (.slice (some ⟨w.heap.size,0,none⟩) n n)) {w with heap:=w.heap.push (.cells u e)}:=by
  simp only[dx,C];have J:¬(n*sz>2^24):=by omega
  have K:n*sz=0->(ce (n*sz)).map ((#[]:Array dl)[·%(#[]:Array dl).size]!)=y:=by
   intro g;rw[m,g];simp
  refine tC ?_;simp only[Instr.buildSlice,hp,dk b.gd,ho,b.run,if_neg J]
  by_cases g:n*sz=0
  ·rw[if_pos g];simp only[hp,hr,ho,K g,g1,newRow,ee]
  ·rw[if_neg g];simp only[hp,hr,ho,rF z1 z2,<-m,g1,newRow,ee]
 obtain⟨q1,G⟩:=Ar (T:=e) (k:=.exact) Q B (by simp) (by simp[cR,AK.gr]) E R (rest:=[]) (by simpa using g3) (by rw[L]) (by omega:_<=n) (fun _=>l.symm) (fun h=>by cases h);rw[l]at G;exact⟨_,_,_,_,aa,U,.inl rfl,q1,G,by
  simp only[aD,kV];exact⟨_,hE (hD.1 B).1,i4 _⟩⟩
theorem Q6{T:dq}{lo q:dp}{sz:Nat}{z:PV}{l:Int}(t:o.op= .makeSlice T lo q)(a:cz P T=some sz)(W:ch P (ey P T)=some z)(K:ρ lo= .p (.int .i64 l))(hc:ρ q= .p (.int .i64 l))
 (hs:bA P (aJ z)=sz)(b:0<=l)(L:l<=cN):bn P o ρ base {v:=.sl base 0 sz 0 l.toNat,aQ:=[.arr .exact 0 sz (hF l.toNat (.p z))]}:=by
 obtain⟨e,d,a⟩:=jM a;obtain⟨i,g,z1,z2,z3,z4⟩:=pf W;rw[a.oY]at z1;intro H w aa ah β Y N B _ J;have u:H[base]?=some .hole:=by simpa using J 0 (by simp)
 have r:=(B lo (by simp[t,g7])).1;have j:=(B q (by simp[t,g7])).1;rw[K]at r;rw[hc]at j;simp only[aw,aB]at r j;have A:=z3 w aa;have m:g.cells.size=sz:=by have:=(nX A).1;simp at this;omega
 obtain⟨n,rfl⟩:=Int.eq_ofNat_of_zero_le b;have y:=wz (β:=β) (H:=H) A n;have X:g.cells.toList.length=sz:=by simpa using m
 rw[X]at y;obtain⟨f,s⟩:∃c,c=(ce (n*sz)).map (g.cells[·%g.cells.size]!):=⟨_,rfl⟩
 have x:f.toList=(hF n g.cells.toList).flatten:=by
  rw[s,<-m];exact Am _ _ (by rw[m];exact a.pos)
 have M:n<=1073741824:=by unfold cN at L;omega
 have D:d.bytes*n<=32768*1073741824:=jc (by have:=a.bytes;omega) M;have O:(dx Y o).run P w=.ok (.value (.slice (some ⟨w.heap.size,0,none⟩) n n)) {w with heap:=w.heap.push (.cells f e)}:=by
  simp only[dx,t,r,j];have V:IntKind.i64.wrap (n:Int)=n:=IntWalk.i64_in _ (by omega);have Q:¬((n:Int)<0):=by omega
  have R:¬((d.bytes:Int)*n>2^48):=by
   intro I;have j:d.bytes*n<=35184372088832:=D;have Z:((d.bytes*n:Nat):Int)>281474976710656:=by rw[Int.natCast_mul];exact I
   omega
  have E:n*sz=0->(ce (n*sz)).map ((#[]:Array dl)[·%(#[]:Array dl).size]!)=f:=by
   intro b;rw[s,b];simp
  have S:(typeInfo e).run P w=.ok d w:=by simp[typeInfo,a.info]
  have F:((decide ((n:Int)<0)||decide ((d.bytes:Int)*n>2^48))||decide ((n:Int)<0)||decide ((n:Int)>n))=false:=by
   simp only[Q,R,decide_false,Bool.or_false,Bool.false_or];simp
  refine tC ?_;simp only[Instr.makeSlice,hp,dk a.gd,ho,asInt,asIntOf,hr,S,V];rw[if_neg (by simpa using F)];simp only[hp,run_askRoom,ho,a.run,Int.toNat_natCast]
  by_cases b:n*sz=0
  ·rw[if_pos b];simp only[hp,hr,ho,E b,newRow,ee]
  ·rw[if_neg b];simp only[hp,hr,ho,rF z1 z2,<-s,newRow,ee]
 have G:f.size=n*sz:=by
  have:=congrArg hX x;simp at this;rw[this];simp[m]
 obtain⟨q1,C⟩:=Ar (T:=e) (k:=.exact) N u (cells:=f) (cap:=n) (by simp) (by simp[cR,AK.gr]) y (by
  rw[cK];intro v U;rw[h9 U];simp[aD]) (rest:=[]) (by simpa using x) G (by simp) (fun _=>by simp) (fun h=>by cases h)
 simp only[List.length_replicate]at C;exact⟨_,_,_,_,aa,O,.inl rfl,q1,C,by
  simp only[aD,kV];exact⟨_,hE (hD.1 u).1,i4 _⟩⟩
end
section
variable{P:dz}{w:dy}{aa ah:Nat->Prop}{β:Bd}{H:aj}
variable{o:Oper}{ρ:dp->AV}{base:Nat}
theorem jO{x:Option dp}{d:Nat}{R:Nat->Prop}(h:gl (x.map ρ) d R):
 ∃n,R n/\((x=none/\n=d)\/∃y k,x=some y/\ρ y=.p (.int k n)):=by
 cases x with
 |none=>exact⟨d,h,.inl ⟨rfl,rfl⟩⟩
 |some y=>
  simp only[j7,gl]at h
  split at h
  ·rename_i hx;cases hx
  ·rename_i k i hx;simp at hx;obtain⟨a,h⟩:=h;refine⟨i.toNat,h,.inr ⟨y,k,rfl,?_⟩⟩;rw[hx,Int.toNat_of_nonneg a]
  ·exact h.elim
theorem rq{lo hi:Option dp}{ρc:dp->dl}{b:Bool}{len cap d h l:Nat}(m:d=len)(n:(hi=none/\h=d)\/∃y k,hi=some y/\ρ y= .p (.int k h))(o:(lo=none/\l=0)\/∃y k,lo=some y/\ρ y= .p (.int k l))
 (f:h<=cap)(g:l<=h)(e:∀y,(hi=some y\/lo=some y)->aw P w aa β H (ρ y) (ρc y)):(gg b len cap (lo.map ρc) (hi.map ρc) none).run P w=.ok (l,h,cap) w:=by
 subst m;rcases n with⟨rfl,rfl⟩|⟨y,k,rfl,i⟩<;>rcases o with⟨rfl,rfl⟩|⟨z,q,rfl,j⟩
 ·simp[gg]
 ·have c:=e z (.inr rfl);rw[j]at c;simp only[aw,aB]at c;simp[gg,c,gm,asIntOf,g]
 ·have a:=e y (.inl rfl);rw[i]at a;simp only[aw,aB]at a;simp[gg,a,gm,asIntOf,f]
 ·have a:=e y (.inl rfl);rw[i]at a;simp only[aw,aB]at a;have c:=e z (.inr rfl);rw[j]at c;simp only[aw,aB]at c;simp[gg,a,c,gm,asIntOf,f,g]
theorem rk{T e:dq}(b:P.underlying T=some (.slice e))(x:dl)(lo hi a:Option dl)(w:dy):(gx T x lo hi a).run P w=(gi T x lo hi a).run P w:=by
 simp only[gx,hp,dk b,ho]
theorem Rl{T:dq}(b:P.underlying T=some .string)(x:dl)(lo hi a:Option dl)(w:dy):(gx T x lo hi a).run P w=(gi T x lo hi a).run P w:=by
 simp only[gx,hp,dk b,ho]
theorem nZ{T:dq}{x y:dp}{lo hi b:Option dp}(a:o.op=.slice T x lo hi b)(h:hi=some y\/lo=some y):y∈o.op.operands:=by
 rw[a];simp only[g7];rcases h with rfl|rfl<;>simp
theorem wG{T:dq}(h:ia P T=true):P.underlying T=some .string:=by
 unfold ia at h
 split at h
 ·assumption
 ·simp at h
theorem tM{ai:Nat}:∀{l:List AV},eZ P ai l↔∀v∈l,ad v≠.bad/\bA P (ad v)=ai
 |[]=>by simp[eZ]
 |v::l=>by simp[eZ,tM (l:=l)]
theorem rK{sz ai:Nat}{a:List AV}{d:List (List dl)}(b:Row P w aa β H ai a d)(hs:eZ P sz a)(g:a≠[]):ai=sz:=by
 cases a with
 |nil=>exact(g rfl).elim
 |cons v a=>
  rw[pA]at b;obtain⟨c,cs,rfl,e,f,_⟩:=b;have:=(tM.1 hs v (by simp)).2;rw[<-f,(mS e).1,this]
theorem Jm{ai:Nat}{d:List PV}{e:List (List dl)}(h:bg P w aa (hF d.length ai) d e)(off len:Nat)(f:off+len<=d.length):
 ∃a b c,e=a++b++c/\bg P w aa (hF ((d.drop off).take len).length ai) ((d.drop off).take len) b/\a.flatten.length=off*ai:=by
 have g:Row P w aa ⟨id,id⟩ [] ai (d.map .p) e:=lx.2 h;obtain⟨a,b,c,e1,e2,e3,_⟩:=jy g off len (by simpa using f);rw[Ab,lx]at e2;exact⟨a,b,c,e1,e2,e3⟩
theorem UW{T:dq}{x:dp}{lo hi N:Option dp}(r:o.op= .slice T x lo hi N){H0:aj}{K:aS->Prop}(h:mY P T H0 (ρ x) (lo.map ρ) (hi.map ρ) (N.map ρ) K):
 ∃e,K e/\bn P o ρ base e/\(∀p∈e.ak,H0[p.1]?=some p.2)/\e.aI=[]:=by
 unfold mY at h;obtain⟨aq,h⟩:=h;obtain rfl:N=none:=by cases N<;>simp_all
 have J:x∈o.op.operands:=by rw[r];simp[g7]
 split at h
 ·
  rename_i s hx;obtain⟨af,h⟩:=h;have ac:=wG af;obtain⟨l,h,C⟩:=jO h;obtain⟨f,h,D⟩:=jO h;obtain⟨A,B,h⟩:=h;refine⟨_,h,bn.same fun H w aa ah β n v m _=>?_,by simp,rfl⟩;have j:=(m x J).1;rw[hx]at j;simp only[aw,aB]at j;obtain⟨bs,e1,e2⟩:=j;have ag:s.length=bs.size:=by rw[e2];simp
  have u:=rq (P:=P) (w:=w) (aa:=aa) (β:=β) (H:=H) (b:=false) (cap:=bs.size) (ρ:=ρ) (ρc:=n) ag C D (by omega) B (fun y z=>(m y (nZ r z)).1);refine⟨.string (bs.extract f l),?_,?_,by simp[aD]⟩
  ·simp only[dx,r,e1];refine eM ?_;rw[Rl ac];simp only[gi,hp,dk ac,ho,j5,Option.isSome_none];simp[u]
  ·simp only[aw,aB];refine⟨_,rfl,?_⟩;rw[e2,<-i1,<-List.map_drop,Go.Lib.extract_data,h0]
 ·
  rename_i hx;obtain⟨g,h⟩:=h;obtain⟨sz,g⟩:=j4.1 g;obtain⟨e,X,g⟩:=jM g;obtain⟨l,h,C⟩:=jO h;obtain⟨f,h,D⟩:=jO h;obtain⟨A,B,F⟩:=h;obtain rfl:l=0:=by omega
  obtain rfl:f=0:=by omega
  refine⟨_,F,bn.same fun H w aa ah β n v m _=>?_,by simp,rfl⟩;have j:=(m x J).1;rw[hx]at j;simp only[aw,aB]at j;have u:=rq (P:=P) (w:=w) (aa:=aa) (β:=β) (H:=H) (b:=true) (cap:=0) (ρ:=ρ) (ρc:=n) (len:=0) (d:=0) rfl C D (by omega) B (fun y z=>(m y (nZ r z)).1);refine⟨.slice none 0 0,?_,by rw[hx];simp[aw,aB],by rw[hx];simp[aD]⟩;simp only[dx,r,j];refine eM ?_;rw[rk g.gd];simp only[gi,hp,dk g.gd,ho,j5,u,g.run];simp
 ·
  rename_i full q hx;obtain⟨l,h,C⟩:=jO h;obtain⟨f,h,D⟩:=jO h;obtain⟨A,B,h⟩:=h
  split at h
  case h_2=>exact h.elim
  rename_i sz g;obtain⟨U,h⟩:=h;obtain⟨e,X,g⟩:=jM g;refine⟨_,h,bn.same fun H w aa ah β n v m _=>?_,by simp,rfl⟩;have j:=(m x J).1;rw[hx]at j;simp only[aw,aB]at j;obtain⟨al,off,cap,ai,Y,v1,v2,v3,v4,v5,sp,V,v6⟩:=j;have W:cap≠f->sp=none:=fun h=>V.resolve_right (by omega);have u:=rq (P:=P) (w:=w) (aa:=aa) (β:=β) (H:=H) (b:=true) (cap:=cap) (ρ:=ρ) (ρc:=n) rfl C D (by omega) B (fun y z=>(m y (nZ r z)).1);refine⟨.slice (some (if cap=f then⟨al,off,sp⟩else⟨al,off+f*sz,none⟩)) (l-f) (cap-f),?_,?_,by simp[aD]⟩
  ·simp only[dx,r,v6];refine eM ?_;rw[rk g.gd];simp only[gi,hp,dk g.gd,ho,j5,u,g.run]
   by_cases hc:cap=f
   ·simp[hc]
   ·obtain rfl:=W hc;simp[hc,jR]
  ·have I:((q.take l).drop f).length=l-f:=by simp;omega
   simp only[aw,aB,I]
   by_cases E:q=[]
   ·subst E;simp at A;subst A;obtain rfl:f=0:=by omega
    by_cases hc:cap=0
    ·exact⟨al,off,cap,sz,[],by simp[bg],by simp,by intro i hi;simp at hi,fun _=>by simpa using hc,by simp,sp,.inr hc,by simp[hc]⟩
    ·exact⟨al,off,cap,sz,[],by simp[bg],by simp,by intro i hi;simp at hi,fun hf=>by simp at hf;simpa using v4 hf,by simp,none,.inl rfl,by simp[hc]⟩
   ·have Q:ai=sz:=rK (w:=w) (aa:=aa) (β:=β) (H:=H) (lx.2 v1) U (by simpa using E);subst Q;obtain⟨a,b,c,e1,e2,e3⟩:=Jm v1 f (l-f) (by omega);rw[<-h0]at e2;have ap:(q.drop f).take (l-f)=(q.take l).drop f:=by rw[h0]
    rw[I]at e2
    by_cases hc:cap=f
    ·obtain rfl:l=f:=by omega
     have O:b=[]:=by
      have:=(tD e2).2.2;simpa using this
     subst O;refine⟨al,off,cap-l,ai,[],by simpa using e2,fun _=>v2 E,by intro i hi;simp at hi,?_,by omega,sp,.inr (by omega),by simp[hc]⟩;intro _;omega
    ·refine⟨al,off+f*ai,cap-f,ai,b,e2,fun _=>v2 E,?_,?_,by omega,none,.inl rfl,by simp[hc]⟩
     ·have:=ry v3 (pre:=a.flatten) (xs:=b.flatten) (post:=c.flatten) (by rw[e1];simp);rw[e3]at this;exact this
     ·intro hf;simp at hf;have:=v4 hf.1;omega
 ·
  rename_i q hx;obtain⟨l,h,C⟩:=jO h;obtain⟨f,h,D⟩:=jO h;obtain⟨A,B,h⟩:=h
  split at h
  case h_2=>exact h.elim
  rename_i sz g;obtain⟨U,h⟩:=h;obtain⟨e,X,g⟩:=jM g;refine⟨_,h,bn.same fun H w aa ah β n v m _=>?_,by simp,rfl⟩;have j:=(m x J).1;rw[hx]at j;simp only[aw,aB]at j;rcases j with⟨rfl,j⟩|⟨al,off,cap,ai,Y,v1,v2,v3,v5,sp,V,v6⟩
  ·simp at A;subst A;obtain rfl:f=0:=by omega
   have u:=rq (P:=P) (w:=w) (aa:=aa) (β:=β) (H:=H) (b:=true) (cap:=0) (ρ:=ρ) (ρc:=n) (len:=0) (d:=0) rfl C D (by omega) B (fun y z=>(m y (nZ r z)).1);refine⟨.slice none 0 0,?_,by simp[aw,aB],by simp[aD]⟩;simp only[dx,r,j];refine eM ?_;rw[rk g.gd];simp only[gi,hp,dk g.gd,ho,j5,u,g.run];simp
  have W:cap≠f->sp=none:=fun h=>V.resolve_right (by omega);have u:=rq (P:=P) (w:=w) (aa:=aa) (β:=β) (H:=H) (b:=true) (cap:=cap) (ρ:=ρ) (ρc:=n) rfl C D (by omega) B (fun y z=>(m y (nZ r z)).1);refine⟨.slice (some (if cap=f then⟨al,off,sp⟩else⟨al,off+f*sz,none⟩)) (l-f) (cap-f),?_,?_,by simp[aD]⟩
  ·simp only[dx,r,v6];refine eM ?_;rw[rk g.gd];simp only[gi,hp,dk g.gd,ho,j5,u,g.run]
   by_cases hc:cap=f
   ·simp[hc]
   ·obtain rfl:=W hc;simp[hc,jR]
  ·have I:((q.take l).drop f).length=l-f:=by simp;omega
   simp only[aw,aB,I];right
   by_cases E:q=[]
   ·subst E;simp at A;subst A;obtain rfl:f=0:=by omega
    by_cases hc:cap=0
    ·exact⟨al,off,cap,sz,[],by simp[bg],by simp,by intro i hi;simp at hi,by simp,sp,.inr hc,by simp[hc]⟩
    ·exact⟨al,off,cap,sz,[],by simp[bg],by simp,by intro i hi;simp at hi,by simp,none,.inl rfl,by simp[hc]⟩
   ·have Q:ai=sz:=rK (w:=w) (aa:=aa) (β:=β) (H:=H) (lx.2 v1) U (by simpa using E);subst Q;obtain⟨a,b,c,e1,e2,e3⟩:=Jm v1 f (l-f) (by omega);rw[<-h0]at e2;rw[I]at e2
    by_cases hc:cap=f
    ·obtain rfl:l=f:=by omega
     have O:b=[]:=by
      have:=(tD e2).2.2;simpa using this
     subst O;exact⟨al,off,cap-l,ai,[],by simpa using e2,fun _=>v2 E,by intro i hi;simp at hi,by omega,sp,.inr (by omega),by simp[hc]⟩
    ·refine⟨al,off+f*ai,cap-f,ai,b,e2,fun _=>v2 E,?_,by omega,none,.inl rfl,by simp[hc]⟩;have:=ry v3 (pre:=a.flatten) (xs:=b.flatten) (post:=c.flatten) (by rw[e1];simp);rw[e3]at this;exact this
 ·
  rename_i b ar ai off len hx
  split at h
  case h_2=>exact h.elim
  rename_i k au ao q S;obtain⟨rfl,rfl,g,M,hlen,h⟩:=h;obtain⟨l,h,C⟩:=jO h;obtain⟨f,h,D⟩:=jO h;obtain⟨A,B,F⟩:=h;obtain⟨e,X,g⟩:=jM g
  have key:∀(H:aj)(w:dy)(aa ah:Nat->Prop)(β:Bd)(n:dp->dl),bN P w aa β H ah->(∀x∈o.op.operands,aw P w aa β H (ρ x) (n x)/\aD (aF H) (ρ x))->
   H[b]?=some (.arr k ar ai q)->q.length<=β.cap b/\(dx n o).run P w=.ok (.value (.slice (some (if β.cap b-off=f then⟨β.al b,off*ai,none⟩else⟨β.al b,off*ai+f*ai,none⟩)) (l-f) (β.cap b-off-f))) w:=by
   intro H w aa ah β n v m t;have j:=(m x J).1;rw[hx]at j;simp only[aw,bJ,bM]at j;obtain⟨_,_,j⟩:=j.2 k q t;have j:=j M;rcases v.cr b _ t with hold|⟨cs,an,Y,rest,k1,k2,k3,k4,k5,k6⟩
   ·exact(M hold).elim
   have u:=rq (P:=P) (w:=w) (aa:=aa) (β:=β) (H:=H) (b:=true) (cap:=β.cap b-off) (ρ:=ρ) (ρc:=n) rfl C D (by omega) B (fun y z=>(m y (nZ r z)).1);refine⟨k5,?_⟩;simp only[dx,r,j];refine eM ?_;rw[rk g.gd];simp only[gi,hp,dk g.gd,ho,j5,u,g.run]
   by_cases hc:β.cap b-off=f
   ·simp[hc]
   ·simp[hc,jR]
  split at F
  ·rename_i Z;subst Z;refine⟨_,F,bn.same fun H w aa ah β n v m ak=>?_,by simpa using S,rfl⟩;have t:H[b]?=some (.arr k ar ai q):=by simpa using ak
   obtain⟨ad,L⟩:=key H w aa ah β n v m t;refine⟨_,L,?_,?_⟩
   ·simp only[aw,bJ,bM];refine⟨by simp[hA],fun am ae G=>?_⟩;unfold fg at G;rw[t]at G;cases G;exact⟨by omega,fun R=>(M R).elim,fun _=>by simp⟩
   ·simp only[aD];exact⟨_,t,i4 _⟩
  ·rename_i Z
   split at F
   ·rename_i ab;subst ab;refine⟨_,F,bn.same fun H w aa ah β n v m ak=>?_,by simpa using S,rfl⟩;have t:H[b]?=some (.arr k ar ai q):=by simpa using ak
    obtain⟨ad,L⟩:=key H w aa ah β n v m t;refine⟨_,L,?_,by simp[aD]⟩;simp only[aw,aB]
    by_cases hc:β.cap b-off=f
    ·exact⟨β.al b,off*ai,β.cap b-off-f,ai,[],by simp[bg],by simp,by intro i hi;simp at hi,by simp,by simp,by simp[hc]⟩
    ·exact⟨β.al b,off*ai+f*ai,β.cap b-off-f,ai,[],by simp[bg],by simp,by intro i hi;simp at hi,by simp,by simp,by simp[hc]⟩
   ·rename_i ab;refine⟨_,F,bn.same fun H w aa ah β n v m ak=>?_,by simpa using S,rfl⟩;have t:H[b]?=some (.arr k ar ai q):=by simpa using ak
    obtain⟨ad,L⟩:=key H w aa ah β n v m t;refine⟨_,L,?_,?_⟩
    ·simp only[aw,bJ,bM];refine⟨by simp[hA],fun am ae G=>?_⟩;unfold fg at G;rw[t]at G;cases G;refine⟨by omega,fun R=>(M R).elim,fun _=>?_⟩;have hc:¬(β.cap b-off=f):=by omega
     rw[if_neg hc,i7,Nat.sub_sub]
    ·simp only[aD];exact⟨_,t,i4 _⟩
 ·exact h.elim
theorem TJ{T:dq}{x:dp}{lo hi:Option dp}{d:dp}(g:o.op= .slice T x lo hi (some d)){H0:aj}{K:aS->Prop}(h:pF P T H0 (ρ x) (lo.map ρ) (hi.map ρ) (ρ d) K):
 ∃e,K e/\bn P o ρ base e/\(∀p∈e.ak,H0[p.1]?=some p.2)/\e.aI=[]:=by
 unfold pF at h;have S:x∈o.op.operands:=by rw[g];simp[g7]
 split at h
 case h_2=>exact h.elim
 rename_i b ar ai off len hx
 split at h
 case h_2=>exact h.elim
 rename_i k ag ac es V;obtain⟨rfl,rfl,c,E,hlen,X,h⟩:=h;obtain⟨i,h,Q⟩:=jO h;obtain⟨I,h,R⟩:=jO h;have J:gl ((some d).map ρ) 0 (fun m=>off+m<=es.length/\i<=m/\I<=i/\K {v:=.p .undef,ak:=[(b,.arr k ar ai es)]}):=h;obtain⟨B,h,U⟩:=jO J;obtain⟨ad,C,L,M⟩:=h;obtain⟨sz,c⟩:=j4.1 c;obtain⟨e,af,c⟩:=jM c;refine⟨_,M,bn.same fun H w aa ah β f W n ak=>?_,by simpa using V,rfl⟩;have F:H[b]?=some (.arr k ar ai es):=by simpa using ak
 have a:=(n x S).1;rw[hx]at a;simp only[aw,bJ,bM]at a;obtain⟨_,_,a⟩:=a.2 k es F;have a:=a E;rcases W.cr b _ F with hold|⟨cs,Z,ab,rest,k1,k2,k3,k4,k5,k6⟩
 ·exact(E hold).elim
 have s:∃q,ρ d=.p (.int q B):=by
  rcases U with⟨h,_⟩|⟨y,q,A,a⟩
  ·cases h
  ·cases A;exact⟨q,a⟩
 obtain⟨q,s⟩:=s;have j:=(n d (by rw[g];simp[g7])).1;rw[s]at j;simp only[aw,aB]at j;have O:∃y G,hi=some y/\ρ y=.p (.int G i):=by
  rcases Q with⟨rfl,_⟩|h
  ·simp at X
  ·exact h
 obtain⟨y,G,rfl,A⟩:=O;have l:=(n y (nZ g (.inl rfl))).1;rw[A]at l;simp only[aw,aB]at l;have N:(gg true len (β.cap b-off) (lo.map f) (some (f y)) (some (f d))).run P w=.ok (I,i,B) w:=by
  have D:(B:Int)<=((β.cap b-off:Nat):Int):=by omega
  rcases R with⟨rfl,rfl⟩|⟨z,ae,rfl,Y⟩
  ·simp[gg,j,l,gm,asIntOf,D,C]
  ·have u:=(n z (nZ g (.inr rfl))).1;rw[Y]at u;simp only[aw,aB]at u;simp[gg,j,l,u,gm,asIntOf,D,C,L]
 have t:∃r,(gx T (f x) (lo.map f) (some (f y)) (some (f d))).run P w=.ok r w:=by
  rw[rk c.gd,a];simp only[gi,hp,dk c.gd,ho,N,c.run];exact⟨_,rfl⟩
 obtain⟨r,t⟩:=t;refine⟨r,?_,by simp only[aw,aB],by simp[aD]⟩;simp only[dx,g,j7];exact eM t
end
section
variable{P:dz}{w:dy}{aa ah:Nat->Prop}{β:Bd}{H:aj}
variable{o:Oper}{ρ:dp->AV}{base:Nat}
theorem abi{H0 H:aj}{a:AV}{c:List AV}(h:gA H0 a=some c)(ak:∀p∈dt H0 a,H[p.1]?=some p.2):gA H a=some c:=by
 cases a with
 |sl b ar ai off len=>
  simp only[gA]at h⊢;simp only[dt]at ak
  split at h
  case h_2=>simp at h
  rename_i k g f e d;rw[d]at ak;have:=ak _ (h3.2 rfl);simp only at this;rw[this];exact h
 |p v=>cases v<;>exact h
 |_=>simp[gA]at h
theorem mH{H0:aj}{a:AV}:∀p∈dt H0 a,H0[p.1]?=some p.2:=by
 intro p b;unfold dt at b
 split at b
 all_goals first
  |(split at b
    ·rename_i o c;simp at b;subst b;exact c
    ·simp at b)
  |simp at b
theorem tA{sz m:Nat}{al off n c:Nat}{w:dy}{xs:List dl}(e:xs.length=m*sz)(hc:gB w al off xs):(e9 sz m (.slice (some ⟨al,off,none⟩) n c)).run P w=.ok xs.toArray w:=by
 refine ej w sz m _ n c xs e ?_;intro j v a;rw[jR];obtain⟨b,d⟩:=hD.1 a;rw[hc j b,d]
theorem zX{sz n c:Nat}{a:Addr}{w:dy}:(e9 sz 0 (.slice (some a) n c)).run P w=.ok #[] w:=
 ej w sz 0 a n c [] (by simp) (fun j v b=>by simp at b)
theorem um{sz:Nat}{a:AV}{u:List AV}{v:dl}(g:gA H a=some u)(I:bN P w aa β H ah)(i:aw P w aa β H a v)(S:aD (aF H) a)(hs:eZ P sz u):
 ∃d,Row P w aa β H sz u d/\aU (aF H) u/\fm v=pure u.length/\
  ∀w':dy,w'.heap=w.heap->∀m,m<=u.length->(e9 sz m v).run P w'=.ok (d.take m).flatten.toArray w':=by
 have G:∀{f:List AV}{d:List (List dl)}(m:Nat),Row P w aa β H sz f d->m<=f.length->(d.take m).flatten.length=m*sz:=by
  intro f d m h j;obtain⟨x,y,z,e1,e2,e3,e4,e5⟩:=jy h 0 m (by omega);have hx:x=[]:=by have:=(fH e4).1;simpa using this
  have O:y.length=m:=by have:=(fH e2).1;simp at this;omega
  subst hx;have K:d.take m=y:=by rw[e1];simp[O]
  rw[K];have:=(fH e2).2;rw[this];simp[j]
 have cells:∀{al off:Nat}{d:List (List dl)}(w':dy),w'.heap=w.heap->gB w al off d.flatten->∀m,gB w' al off (d.take m).flatten:=by
  intro al off d w' q hc m;have J:gB w' al off d.flatten:=hc.same (by rw[q]);have:=ry J (pre:=[]) (xs:=(d.take m).flatten) (post:=(d.drop m).flatten) (by
   rw[iz,<-h2,List.take_append_drop])
  simpa using this
 cases a with
 |p t=>
  cases t with
  |aL=>
   simp[gA]at g;subst g;simp only[aw,aB]at i;subst i;exact⟨[],gR.2 rfl,by simp[aU],rfl,fun w' _ m j=>by simp[e9]⟩
  |cE full f=>
   simp[gA]at g;subst g;simp only[aw,aB]at i;obtain⟨al,off,cap,ai,d,v1,v2,v3,v4,v5,sp,E,rfl⟩:=i;rcases E with rfl|rfl
   case inr=>
    obtain rfl:f=[]:=hK.1 (by omega);exact⟨[],gR.2 rfl,by simp[aU],rfl,fun w' _ m j=>by
     obtain rfl:m=0:=by simpa using j
     exact zX⟩
   have h:Row P w aa β H ai (f.map .p) d:=lx.2 v1;have o:Row P w aa β H sz (f.map .p) d:=by
    by_cases n:f.map AV.p=[]
    ·rw[n]at h⊢;rw[gR]at h⊢;exact h
    ·rw[<-rK h hs n];exact h
   refine⟨d,o,iF _ _,by simp[fm],fun w' q m j=>?_⟩;exact tA (G m o j) (cells w' q v3 m)
  |seq f=>
   simp[gA]at g;subst g;simp only[aw,aB]at i;rcases i with⟨rfl,rfl⟩|⟨al,off,cap,ai,d,v1,v2,v3,v5,sp,E,rfl⟩
   ·exact⟨[],gR.2 rfl,by simp[aU],rfl,fun w' _ m j=>by simp[e9]⟩
   rcases E with rfl|rfl
   case inr=>
    obtain rfl:f=[]:=hK.1 (by omega);exact⟨[],gR.2 rfl,by simp[aU],rfl,fun w' _ m j=>by
     obtain rfl:m=0:=by simpa using j
     exact zX⟩
   have h:Row P w aa β H ai (f.map .p) d:=lx.2 v1;have o:Row P w aa β H sz (f.map .p) d:=by
    by_cases n:f.map AV.p=[]
    ·rw[n]at h⊢;rw[gR]at h⊢;exact h
    ·rw[<-rK h hs n];exact h
   refine⟨d,o,iF _ _,by simp[fm],fun w' q m j=>?_⟩;exact tA (G m o j) (cells w' q v3 m)
  |str s=>
   simp[gA]at g;subst g;simp only[aw,aB]at i;obtain⟨bs,rfl,rfl⟩:=i;have N:sz=1\/bs.data.toList=[]:=by
    cases B:bs.data.toList with
    |nil=>exact .inr rfl
    |cons a r=>
     rw[B]at hs;simp[eZ,ad,aJ,bA]at hs;exact .inl hs.1.symm
   have h:Row P w aa β H sz ((bs.data.toList.map (·.toNat)).map fun c=>.p (.int .u8 (c:Nat))) (bs.data.toList.map fun c=>[hB .u8 c.toNat]):=by
    rcases N with rfl|B
    ·generalize bs.data.toList=l
     induction l with
     |nil=>exact gR.2 rfl
     |cons a r F=>exact pA.2 ⟨_,_,rfl,by simp[bh,aV],rfl,F⟩
    ·rw[B];exact gR.2 rfl
   refine⟨_,h,by rw[cK];intro v i;simp at i;obtain⟨a,_,rfl⟩:=i;simp[aD],by simp[fm],fun w' _ m _=>?_⟩;have e:((bs.data.toList.map fun c=>[hB .u8 c.toNat]).take m).flatten=(bs.data.toList.take m).map fun c=>hB .u8 c.toNat:=by
    rw[<-i1];generalize bs.data.toList.take m=l
    induction l with
    |nil=>rfl
    |cons a r F=>simp[F]
   rw[e];simp only[e9,hr];congr 1;apply b5;simp[ByteArray.data_extract]
  |_=>simp[gA]at g
 |sl b ar ai off len=>
  simp only[gA]at g
  split at g
  case h_2=>simp at g
  rename_i k T R f D
  split at g
  case isFalse=>simp at g
  rename_i hc;obtain⟨rfl,rfl,C⟩:=hc;simp at g;subst g;simp only[aw,bJ,bM]at i;obtain⟨_,v2,v3⟩:=i.2 k f D;have M:((f.drop off).take len).length=len:=by simp;omega
  by_cases A:cR k f
  ·rw[v2 A];have L:=A.2;subst L;simp at C;obtain⟨rfl,rfl⟩:=C;exact⟨[],gR.2 (by simp),by simp[aU],rfl,fun w' _ m j=>by simp[e9]⟩
  ·rw[v3 A];rcases I.cr b _ D with hold|⟨cs,Q,d,rest,k1,k2,k3,k4,k5,k6⟩
   ·exact(A hold).elim
   obtain⟨x,y,z,e1,e2,e3,e4,e5⟩:=jy k2 off len C;have o:Row P w aa β H sz ((f.drop off).take len) y:=by
    by_cases n:(f.drop off).take len=[]
    ·rw[n]at e2⊢;rw[gR]at e2⊢;exact e2
    ·rw[<-rK e2 hs n];exact e2
   refine⟨y,o,?_,by rw[M];rfl,fun w' q m j=>?_⟩
   ·rw[cK];intro v i;exact cK.1 (I.refs b _ D) v (hQ (hM i))
   ·refine tA (G m o j) (cells w' q ?_ m);rw[<-e3];exact ld k1 (post:=z.flatten++rest) (by rw[k3,e1];simp)
 |_=>simp[gA]at g
theorem Tp{T X e:dq}{i:ea}{f:dl}{sz:Nat}(a:pq P T sz e i)(b:iA P X=true)(y:i.zero=some f)(A:dq){p:Option Addr}{sLen sCap n:Nat}{j h:Array dl}(x:dl)
 (hx:fm x=pure n)(s:(e9 sz sLen (.slice p sLen sCap)).run P w.drew=.ok j w.drew)(aQ:(e9 sz n x).run P w.drew=.ok h w.drew)(q:sCap<sLen+n)(g:sLen+n<=cN):
 ∃cap,sLen+n<=cap/\(fb #[T,X] A #[.slice p sLen sCap,x]).run P w=
  .ok (.slice (some ⟨w.heap.size,0,none⟩) (sLen+n) cap) {w.drew with heap:=w.heap.push (.cells (j++h++fv f.cells (cap-(sLen+n))) e)}:=by
 refine⟨grownCap w (sLen+n) sCap e,by simp[grownCap,Question.cut],?_⟩;have o:∃d,P.underlying X=some d/\∀k,d≠.int k:=by
  unfold iA at b
  split at b
  ·simp at b
  ·rename_i d c v;exact⟨_,v,c⟩
  ·simp at b
 obtain⟨d,c,B⟩:=o;have r:¬(sLen+n<=sCap):=by omega
 have m:¬(9223372036854775807<((sLen:Int)+(n:Int))):=by unfold cN at g;omega
 have C:gb (sLen+n) sCap*i.bytes<=281474976710656:=by
  refine growslice_fits q ?_;have:=jc g (Nat.le_of_lt a.bytes);unfold cN at this;omega
 have l:¬(281474976710656<gb (sLen+n) sCap*i.bytes):=by omega
 have t:(sizeOf e).run P w=.ok sz w:=a.run w;have u:∀w:dy,(typeInfo e).run P w=.ok i w:=fun w=>by simp[typeInfo,a.info]
 have z:∀w:dy,(zeroValue e).run P w=.ok f w:=fun w=>by simp[zeroValue,typeInfo,a.info,y]
 simp[fb,dk a.gd,dk c,t,u,z,hx,r,m,l,Question.forced,s,aQ,newRow,grownCap,Array.append_assoc];rfl
theorem FY{T X e:dq}{i:ea}{sz:Nat}(j:pq P T sz e i)(c:iA P X=true)(t:dq){g off:Nat}{sLen sCap n:Nat}{b:Array dl}{h:dq}{a:List dl}(x:dl)
 (hx:fm x=pure n)(o:w.heap[g]?=some (.cells b h (0,0)))(aQ:(e9 sz n x).run P w=.ok a.toArray w)(l:∀u∈a,u.oneCell'=true)(q:sLen+n<=sCap)(p:off+sLen*sz+a.length<=b.size):
 (fb #[T,X] t #[.slice (some ⟨g,off,none⟩) sLen sCap,x]).run P w=
  .ok (.slice (some ⟨g,off,none⟩) (sLen+n) sCap) (w.setRow g (b.toList.take (off+sLen*sz)++a++b.toList.drop (off+sLen*sz+a.length)).toArray):=by
 have m:∃d,P.underlying X=some d/\∀k,d≠.int k:=by
  unfold iA at c
  split at c
  ·simp at c
  ·rename_i d f s;exact⟨_,s,f⟩
  ·simp at c
 obtain⟨d,f,v⟩:=m;have aK:=em P g (off+sLen*sz) h a 0 b w o (by simpa using p) l;simp only[i8]at aK;have r:(sizeOf e).run P w=.ok sz w:=j.run w;simp[fb,dk j.gd,dk f,r,hx,q,aQ,jR,aK]
theorem Si{T X e:dq}{i:ea}{sz:Nat}(f:pq P T sz e i)(b:iA P X=true)(m:dq){p:Option Addr}{sLen sCap:Nat}(x:dl)
 (hx:fm x=pure 0)(aQ:(e9 sz 0 x).run P w=.ok #[] w)(g:sLen<=sCap):
 (fb #[T,X] m #[.slice p sLen sCap,x]).run P w=.ok (.slice p sLen sCap) w:=by
 have j:∃d,P.underlying X=some d/\∀k,d≠.int k:=by
  unfold iA at b
  split at b
  ·simp at b
  ·rename_i d c l;exact⟨_,l,c⟩
  ·simp at b
 obtain⟨d,c,n⟩:=j;have h:(sizeOf e).run P w=.ok sz w:=f.run w;cases p with
 |none=>simp[fb,dk f.gd,dk c,h,hx,g,aQ]
 |some a=>simp[fb,dk f.gd,dk c,h,hx,g,aQ,storeCells]
theorem bP.drew{aE:Nat->Prop}{w1 w':dy}{aG:Bd}{H':aj}(a:w1.heap=w.heap)(b:w1.os=w.os/\w1.output=w.output)(h:bP P ah aa w1 β H aE w' aG H'):bP P ah aa w β H aE w' aG H':=
 ⟨h.bL,h.fresh,⟨by rw[<-a];exact h.ext.size,fun k hk=>by rw[<-a];exact h.ext.same k hk,h.ext.io.1.trans b.1,h.ext.io.2.trans b.2⟩,h.step,h.rel,h.eQ,h.loop⟩
theorem QF(z:Array dl)(n:Nat):(fv z n).size=n*z.size:=by simp[fv]
theorem uz{ai:Nat}:∀{b:List AV}{a:List (List dl)},Row P w aa β H ai b a->∀c∈a.flatten,c.oneCell'=true
 |[],a,h=>by rw[gR]at h;subst h;simp
 |v::b,a,h=>by
  rw[pA]at h;obtain⟨c,cs,rfl,d,_,e⟩:=h;intro x hx;simp only[hS,h5]at hx;exact hx.elim (xI d x) (uz e x)
theorem Row.mono{w':dy}{aE:Nat->Prop}{aG:Bd}{H':aj}(hI:∀k,aa k->aE k)(hs:∀k,aa k->w'.heap[k]?=w.heap[k]?)(aK:cd β H aG H'){ai:Nat}{a:List AV}{b:List (List dl)}(c:aU (aF H) a)
 (h:Row P w aa β H ai a b):Row P w' aE aG H' ai a b:=bG.mono hI hs aK _ _ _ c h
theorem wJ{c:Call}{s x:dp}(e:o.op= .call c)(hc:c.callee= .builtin .append)(b:c.args.toList=[s,x]){a:dp->dl}{w w':dy}{v:dl}
 (h:(fb c.argTypes o.type #[a s,a x]).run P w=.ok v w'):(dx a o).run P w=.ok (.value v) w':=by
 have d:c.args=#[s,x]:=by apply b5;simpa using b
 simp only[dx,e,resolve,hc,d];simp[invoke,builtin,h]
theorem TV{c:Call}{s x:dp}(e:o.op= .call c)(hc:c.callee= .builtin .copy)(b:c.args.toList=[s,x]){a:dp->dl}{w w':dy}{v:dl}
 (h:(gc c.argTypes o.type #[a s,a x]).run P w=.ok v w'):(dx a o).run P w=.ok (.value v) w':=by
 have d:c.args=#[s,x]:=by apply b5;simpa using b
 simp only[dx,e,resolve,hc,d];simp[invoke,builtin,h]
end
section
variable{P:dz}{w:dy}{aa ah:Nat->Prop}{β:Bd}{H:aj}
variable{o:Oper}{ρ:dp->AV}{base:Nat}
theorem wu{c:Call}{s x:dp}(D:o.op= .call c)(hc:c.callee= .builtin .append)(y:c.args.toList=[s,x]){T X e:dq}(I:c.argTypes=#[T,X]){i:ea}{j:dl}{sz:Nat}(u:pq P T sz e i)(v:iA P X=true)
 (L:i.zero=some j)(M:j.cells.size=sz)(F:bN P w aa β H ah){g:dp->dl}{p:Option Addr}{b f:Nat}{olds a:List AV}{ocss:List (List dl)}(hs:g s=.slice p b f)(m:olds.length=b)(l:Row P w aa β H sz olds ocss)(E:aU (aF H) olds)
 (C:(e9 sz b (.slice p b f)).run P w.drew=.ok ocss.flatten.toArray w.drew)
 (hx:gA H (ρ x)=some a)(K:aw P w aa β H (ρ x) (g x))(J:aD (aF H) (ρ x))(G:eZ P sz a)(A:f<b+a.length)(B:b+a.length<=cN):
 ∃cap cells d N,(dx g o).run P w=.ok (.value (.slice (some ⟨w.heap.size,0,none⟩) (b+a.length) cap)) {w.drew with heap:=w.heap.push (.cells cells e)}/\
  Row P w aa β H sz (olds++a) d/\aU (aF H) (olds++a)/\cells.toList=d.flatten++N/\cells.size=cap*sz/\(olds++a).length<=cap:=by
 obtain⟨d,h,q,r,t⟩:=um hx F K J G;have k:=t w.drew rfl a.length (i4 _);have O:d.length=a.length:=(fH h).1;rw[hV (by omega)]at k;obtain⟨cap,z,n⟩:=Tp u v L o.type (sLen:=b) (sCap:=f) (p:=p) (g x) r C k A B;rw[<-I,<-hs]at n;refine⟨cap,_,ocss++d,(fv j.cells (cap-(b+a.length))).toList,wJ D hc y n,kz.2 ⟨_,_,rfl,l,h⟩,jx E q,by simp,?_,by simpa[m]using z⟩;have e1:=(fH l).2;have e2:=(fH h).2;simp only[Array.size_append,h4,QF,M,e1,e2,m,<-i7];congr 1;omega
theorem sD{T:dq}:gk P T≠.frozen/\gk P T≠.exact:=by
 unfold gk;split<;>simp
theorem C0{T e:dq}(h:ey P T=e)(hk:gk P T=.bytes):e=Gl.u8:=by
 unfold gk at hk
 split at hk
 ·rename_i a;rw[<-h];exact a
 ·cases hk
theorem A3{_o':Obj}{k:AK}{a:List AV}{b:List (List dl)}{r:List dl}{cells:Array dl}{e:dq}{cap sz:Nat}(j:bN P w aa β H ah)(c:H[base]?=some .hole)
 (g:k≠.frozen)(i:¬cR k a)(m:Row P w aa β H sz a b)(d:aU (aF H) a)(hc:cells.toList=b.flatten++r)(o:cells.size=cap*sz)(h:a.length<=cap)(f:k=.exact->cap=a.length)(p:k=.bytes->e=Gl.u8):
 bP P ah aa w β H aa {w.drew with heap:=w.heap.push (.cells cells e)} (β.at base w.heap.size cap) (bk H ([]++newAt base [.arr k 0 sz a]))/\
 aw P {w.drew with heap:=w.heap.push (.cells cells e)} aa (β.at base w.heap.size cap) (bk H ([]++newAt base [.arr k 0 sz a])) (.sl base 0 sz 0 a.length) (.slice (some ⟨w.heap.size,0,none⟩) a.length cap)/\
 aD (aF (bk H ([]++newAt base [.arr k 0 sz a]))) (.sl base 0 sz 0 a.length):=by
 have l:bN P w.drew aa β H ah:=bN.wY (w:=w) (w':=w.drew) rfl j;have n:Row P w.drew aa β H sz a b:=Row.mono (w:=w) (w':=w.drew) (fun _ x=>x) (fun _ _=>rfl) (cd.refl _ _) d m;obtain⟨q1,q⟩:=Ar (T:=e) (k:=k) l c g i n d hc o h f p;rw[kV];exact⟨bP.drew (w1:=w.drew) rfl ⟨rfl,rfl⟩ q1,q,⟨_,hE (hD.1 c).1,i4 _⟩⟩
theorem Iq{b:Nat}{k k':AK}{ar ai:Nat}{g es':List AV}{al cap:Nat}(e:H[b]?=some (.arr k ar ai g)):cd β H (β.at b al cap) (H.set b (.arr k' (ar+1) ai es')):=by
 have i:b<H.length:=(hD.1 e).1;have c:∀x,x≠b->(H.set b (.arr k' (ar+1) ai es'))[x]?=H[x]?:=fun x hx=>hZ (Ne.symm hx);have a:(H.set b (.arr k' (ar+1) ai es'))[b]?=some (.arr k' (ar+1) ai es'):=hE i;refine⟨?_,?_,?_,?_,?_⟩
 ·rintro x _ ⟨fz,t,h⟩
  by_cases hx:x=b
  ·subst hx;rw[a]at h;cases h
  ·rw[c x hx]at h;exact⟨⟨fz,t,h⟩,by simp[Bd.at,hx]⟩
 ·rintro x _ ⟨fz,t,h⟩
  by_cases hx:x=b
  ·subst hx;rw[a]at h;cases h
  ·rw[c x hx]at h;exact⟨⟨fz,t,h⟩,by simp[Bd.at,hx]⟩
 ·rintro x _ ⟨fz,t,h⟩
  by_cases hx:x=b
  ·subst hx;rw[a]at h;cases h
  ·rw[c x hx]at h;exact⟨⟨fz,t,h⟩,by simp[Bd.at,hx]⟩
 ·intro x v z l f hi h;unfold fg at h
  by_cases hx:x=b
  ·subst hx;rw[a]at h;cases h;obtain⟨m,d,j⟩:=hi;simp only at d;rw[e]at d;cases d;simp only[Obj.has]at j;omega
  ·rw[c x hx]at h;exact⟨l,f,h,i4 _,Iff.rfl,fun _=>by simp[Bd.at,hx]⟩
 ·rintro x _ ⟨L,h⟩
  by_cases hx:x=b
  ·subst hx;rw[a]at h;cases h
  ·rw[c x hx]at h;exact⟨⟨L,h⟩,by simp[Bd.at,hx]⟩
theorem Bd.T8(β:Bd)(b:Nat):β.at b (β.al b) (β.cap b)=β:=by
 cases β with
 |mk al cap=>
  simp only[Bd.at,Bd.mk.injEq];constructor
  ·funext x;split
   ·rename_i h;rw[h]
   ·rfl
  ·funext x;split
   ·rename_i h;rw[h]
   ·rfl
theorem Ae{α:Type}(A M Z X:List α):(A++M++Z).take A.length++X++(A++M++Z).drop (A.length+M.length)=A++X++Z:=by
 rw[hL A M Z,List.take_left,<-hL,<-hG,List.drop_left]
theorem TL{c:Call}{s x:dp}(Y:o.op= .call c)(hc:c.callee= .builtin .append)(W:c.args.toList=[s,x])(bV:c.argTypes.size=2){H0:aj}{K:aS->Prop}
 (h:mQ P (c.argTypes.getD 0 0) (c.argTypes.getD 1 0) H0 (ρ s) (ρ x) K):
 ∃e,K e/\bn P o ρ H0.length e/\(∀p∈e.ak,H0[p.1]?=some p.2)/\(∀p∈e.aI,p.1<H0.length/\p.2≠.hole):=by
 obtain⟨T,X,S⟩:∃T X,c.argTypes=#[T,X]:=by
  obtain⟨l,I⟩:∃l,l=c.argTypes.toList:=⟨_,rfl⟩
  have af:l.length=2:=by rw[I];simpa using bV
  match l,af with
  |[a,b],_=>exact⟨a,b,by apply b5;simp[<-I]⟩
 have B:s∈o.op.operands/\x∈o.op.operands:=by
  have bF:c.args=#[s,x]:=by apply b5;simpa using W
  rw[Y];simp[g7,Call.operands,hc,bF]
 have e1:c.argTypes.getD 0 0=T:=by rw[S];rfl
 have e2:c.argTypes.getD 1 0=X:=by rw[S];rfl
 rw[e1,e2]at h;unfold mQ at h
 split at h
 case h_2=>exact h.elim
 rename_i sz g F hx;obtain⟨ag,a9,an,h⟩:=h;obtain⟨e,i,F⟩:=jM F;obtain⟨z,a9⟩:=j4.1 a9;obtain⟨b3,b0,z1,z2,z3,z4⟩:=pf a9;rw[F.oY]at z1 z4;rw[F.info]at z1;cases z1;have aX:b0.cells.size=sz:=by
  obtain⟨_,i2,k1,k2⟩:=wx (v:=.p z) (w:=default) (aa:=fun _=>False) (β:=⟨id,id⟩) (H:=[]) z4 (by simp only[bh];exact z3 _ _);rw[F.info]at k1;cases k1;have:=F.size;simp at k2;omega
 have bb:∀{ak:List (Nat×Obj)},(∀p∈dt H0 (ρ x),p∈ak)->(∀p∈ak,H0[p.1]?=some p.2)->g=[]->(∀(H:aj)(w:dy)(aa ah:Nat->Prop)(β:Bd)(v:dl),bN P w aa β H ah->(∀p∈ak,H[p.1]?=some p.2)->aw P w aa β H (ρ s) v->∃p a b,v= .slice p a b/\a<=b)->
  bn P o ρ H0.length {v:=ρ s,ak}:=by
  intro ak bU ax bW bS;subst bW;refine bn.same fun H w aa ah β av f j ak=>?_;obtain⟨p,a,b,u,bE⟩:=bS H w aa ah β _ f ak (j s B.1).1;obtain⟨E,C,af,bB,bC⟩:=um (abi hx (fun p u=>ak p (bU p u))) f (j x B.2).1 (j x B.2).2 an;have bj:=bC w rfl 0 (i4 _);simp only[List.take_zero,ix]at bj;have R:=Si F ag o.type (p:=p) (sLen:=a) (sCap:=b) _ bB bj bE;rw[<-S,<-u]at R;exact⟨_,wJ Y hc W R,by rw[u];exact u▸(j s B.1).1,(j s B.1).2⟩
 have ba:∀l:List AV,l.isEmpty=true->l=[]:=fun l h=>by simpa using h
 split at h
 ·
  rename_i hs
  split at h
  ·rename_i G;refine⟨_,h,?_,mH,by simp⟩;exact bb (fun p u=>u) mH (ba _ G) (fun H w aa ah β v _ _ A=>by rw[hs]at A;simp only[aw,aB]at A;exact⟨_,_,_,A,i4 _⟩)
  ·rename_i G;obtain⟨bq,h⟩:=h;refine⟨_,h,?_,mH,by simp⟩;intro H w aa ah β av f j ak aJ;have am:H[H0.length]?=some .hole:=by simpa using aJ 0 (by simp)
   have Q:=(j s B.1).1;rw[hs]at Q;simp only[aw,aB]at Q;have bs:0<g.length:=h1.2 (by simpa using G);obtain⟨cap,cells,E,D,ac,ao,ad,ap,aq,au⟩:=wu Y hc W S F ag z2 aX f Q (olds:=[]) (ocss:=[]) rfl (gR.2 rfl) (by simp[aU]) (by simp[e9])
    (abi hx ak) (j x B.2).1 (j x B.2).2 an (by omega) (by omega)
   obtain⟨q1,Z,ab⟩:=A3 (base:=H0.length) (k:=gk P T) (e:=e) (_o':=.hole) f am sD.1 (fun q=>G (by simpa using q.2)) ao ad ap aq au (fun h=>(sD.2 h).elim) (C0 F.oY);simp only[iz,j1]at ac q1 Z ab;exact⟨_,_,_,_,aa,ac,.inl rfl,q1,Z,ab⟩
 ·
  rename_i full d hs;obtain⟨bG,h⟩:=h
  have Q:∀{H:aj}{w:dy}{aa:Nat->Prop}{β:Bd}{v:dl},aw P w aa β H (ρ s) v->∃p c N,v= .slice p d.length c/\d.length<=c/\(full=true->c=d.length)/\Row P w aa β H sz (d.map .p) N/\
   (∀w':dy,w'.heap=w.heap->(e9 sz d.length v).run P w'=.ok N.flatten.toArray w'):=by
   intro H w aa β v A;rw[hs]at A;simp only[aw,aB]at A;obtain⟨al,off,cap,ai,E,v1,v2,v3,v4,v5,sp,bT,rfl⟩:=A;rcases bT with rfl|rfl
   case inr=>
    obtain rfl:d=[]:=hK.1 (by omega);exact⟨_,_,[],rfl,by simp,by simp,gR.2 rfl,fun w' _=>zX⟩
   have aN:Row P w aa β H ai (d.map .p) E:=lx.2 v1;have bw:Row P w aa β H sz (d.map .p) E:=by
    by_cases br:d.map AV.p=[]
    ·rw[br]at aN⊢;rw[gR]at aN⊢;exact aN
    ·rw[<-rK aN bG br];exact aN
   refine⟨_,_,E,rfl,v5,v4,bw,fun w' a8=>tA (by have:=(fH bw).2;simpa using this) (v3.same (by rw[a8]))⟩
  split at h
  ·rename_i G;refine⟨_,h,?_,mH,by simp⟩;exact bb (fun p u=>u) mH (ba _ G) (fun H w aa ah β v _ _ A=>by obtain⟨p,c,_,C,af,_⟩:=Q A;exact⟨p,_,c,C,af⟩)
  ·rename_i G;obtain⟨hf,bq,h⟩:=h;refine⟨_,h,?_,mH,by simp⟩;intro H w aa ah β av f j ak aJ;have am:H[H0.length]?=some .hole:=by simpa using aJ 0 (by simp)
   have bs:0<g.length:=h1.2 (by simpa using G);obtain⟨p,cp,N,s1,s2,bY,bZ,bA⟩:=Q (j s B.1).1;rw[s1]at bA;obtain⟨cap,cells,E,D,ac,ao,ad,ap,aq,au⟩:=wu Y hc W S F ag z2 aX f s1 (olds:=d.map .p) (by simp) bZ (iF _ _) (bA w.drew rfl)
    (abi hx ak) (j x B.2).1 (j x B.2).2 an (by have:=bY hf;omega) (by omega)
   obtain⟨q1,Z,ab⟩:=A3 (base:=H0.length) (k:=gk P T) (e:=e) (_o':=.hole) f am sD.1 (fun q=>G (by have:=q.2;simp at this;simp[this.2])) ao ad ap aq au (fun h=>(sD.2 h).elim) (C0 F.oY);simp only[hG,List.length_map]at Z ab;exact⟨_,_,_,_,aa,ac,.inl rfl,q1,Z,ab⟩
 ·
  rename_i b ar ai off len hs
  split at h
  case h_2=>exact h.elim
  rename_i k b4 b1 d a6;obtain⟨rfl,rfl,rfl,hlen,h⟩:=h;have ax:∀p∈(b,Obj.arr k ar ai d)::dt H0 (ρ x),H0[p.1]?=some p.2:=by
   intro p u;rcases hT.1 u with rfl|u
   ·exact a6
   ·exact mH p u
  have Q:∀{H:aj}{w:dy}{aa ah:Nat->Prop}{β:Bd}{v:dl},bN P w aa β H ah->H[b]?=some (.arr k ar ai d)->aw P w aa β H (ρ s) v->
   (cR k d/\v=.slice none 0 0/\len=0)\/(¬cR k d/\v=.slice (some ⟨β.al b,off*ai,none⟩) len (β.cap b-off)/\
   ∃cs T E D,w.heap[β.al b]?=some (.cells cs T (0,0))/\Row P w aa β H ai d E/\cs.toList=E.flatten++D/\
   cs.size=β.cap b*ai/\d.length<=β.cap b/\(k=.exact->β.cap b=d.length)/\cm aa β ah (k== .frozen) b/\(k=.bytes->T=Gl.u8)):=by
   intro H w aa ah β v f t A;rw[hs]at A;simp only[aw,bJ,bM]at A;obtain⟨_,v2,v3⟩:=A.2 k d t
   by_cases q:cR k d
   ·exact .inl ⟨q,v2 q,by have:=q.2;subst this;simp at hlen;omega⟩
   ·rcases f.cr b _ t with hold|⟨cs,O,E,D,k1,k2,k3,k4,k5,k6,k7,k8⟩
    ·exact(q hold).elim
    ·exact .inr ⟨q,v3 q,cs,O,E,D,k1,k2,k3,k4,k5,k6,k7,k8.2⟩
  have holds:∀{H:aj}{w:dy}{aa:Nat->Prop}{β:Bd}{cs:Array dl}{O:dq}{E:List (List dl)}{D:List dl},w.heap[β.al b]?=some (.cells cs O (0,0))->Row P w aa β H ai d E->cs.toList=E.flatten++D->
   ∃N,Row P w aa β H ai ((d.drop off).take len) N/\∀(w':dy)(n c:Nat),w'.heap=w.heap->(e9 ai len (.slice (some ⟨β.al b,off*ai,none⟩) n c)).run P w'=.ok N.flatten.toArray w':=by
   intro H w aa β cs O E D k1 k2 k3;obtain⟨a,m,z,g1,g2,g3,g4,g5⟩:=jy k2 off len hlen;refine⟨m,g2,fun w' n c a8=>tA (by have:=(fH g2).2;rw[this];congr 1;simp;omega) ?_⟩;have:=ld k1 (pre:=a.flatten) (xs:=m.flatten) (post:=z.flatten++D) (by rw[k3,g1];simp);rw[g3]at this;exact this.same (by rw[a8])
  split at h
  ·rename_i G;refine⟨_,h,?_,ax,by simp⟩;refine bb (fun p u=>hN _ u) ax (ba _ G) (fun H w aa ah β v f ak A=>?_);rcases Q f (ak (b,_) (by simp)) A with⟨_,C,_⟩|⟨q,C,cs,O,E,D,af⟩
   ·exact⟨_,_,_,C,i4 _⟩
   ·exact⟨_,_,_,C,by omega⟩
  ·rename_i G;have bs:0<g.length:=h1.2 (by simpa using G);obtain⟨bq,h⟩:=h
   split at h
   ·exact h.elim
   ·
    split at h
    ·rename_i az;refine⟨_,h,?_,ax,by simpa using(hD.1 a6).1⟩;intro H w aa ah β av f j ak _;have t:H[b]?=some (.arr .exact ar ai d):=ak (b,_) (by simp);rcases Q f t (j s B.1).1 with⟨q,_⟩|⟨q,C,cs,O,E,D,k1,k2,k3,k4,k5,k6,k7,k8⟩
     ·cases q.1
     obtain⟨M,V,bc,bd,be⟩:=um (abi hx (fun p u=>ak p (hN _ u))) f (j x B.2).1 (j x B.2).2 an;have aP:=be w rfl g.length (i4 _);rw[hV (by have:=(fH V).1;omega)]at aP;have bo:=k6 rfl;obtain⟨a,m,ae,g1,g2,g3,g4,g5⟩:=jy k2 (off+len) g.length az;have aA:=(fH V).2;have ay:m.flatten.length=g.length*ai:=by have:=(fH g2).2;rw[this];congr 1;simp;omega
     have aR:cs.toList=a.flatten++m.flatten++(ae.flatten++D):=by rw[k3,g1];simp
     have bm:a.flatten.length=off*ai+len*ai:=by rw[g3,i7]
     have bx:cs.size=a.flatten.length+m.flatten.length+(ae.flatten++D).length:=by
      have:=congrArg hX aR;simp only[hG,cy]at this;rw[this,hG]
     have R:=FY F ag o.type (sLen:=len) (sCap:=β.cap b-off) _ bd k1 aP (uz V) (by omega) (by rw[aA,bx,bm,ay];exact Nat.le_add_right _ _);rw[<-S,<-C]at R;have aQ:cs.toList.take (off*ai+len*ai)++M.flatten++cs.toList.drop (off*ai+len*ai+M.flatten.length)=a.flatten++M.flatten++(ae.flatten++D):=by
      rw[aR,<-bm,aA,<-ay];exact Ae _ _ _ _
     rw[aQ]at R;have aK:cd β H β (H.set b (.arr .exact ar ai (d.take (off+len)++g++d.drop (off+len+g.length)))):=nY t (.inr (.inl ⟨_,_,_,_,_,rfl,rfl,by simp;omega⟩));have aI:¬aa (β.al b)/\¬ah (β.al b):=by
      unfold cm at k7;rw[if_neg (by simp)]at k7;exact k7
     have a7:∀J,aa J->(w.setRow (β.al b) (a.flatten++M.flatten++(ae.flatten++D)).toArray).heap[J]?=w.heap[J]?:=fun J a3=>eb w _ J _ (fun a2=>aI.1 (a2▸a3));have hrefs:aU (aF H) (d.take (off+len)++g++d.drop (off+len+g.length)):=by
      have bt:=cK.1 (f.refs b _ t);refine jx (jx ?_ bc) ?_
      ·rw[cK];exact fun v A=>bt v (hM A)
      ·rw[cK];exact fun v A=>bt v (hQ A)
     have aT:=ly t (o:=.arr .exact ar ai (d.take (off+len)++g++d.drop (off+len+g.length))) (fun _ h=>h);have a4:(d.take (off+len)++g++d.drop (off+len+g.length)).length=d.length:=by simp;omega
     have aM:=o9 f t q (o':=.arr .exact ar ai (d.take (off+len)++g++d.drop (off+len+g.length))) (fun U=>by cases U.1) (fun _ h=>h) k1 (new:=(a.flatten++M.flatten++(ae.flatten++D)).toArray) aI aK
      (.inr ⟨_,O,a++M++ae,D,ed w _ _ _ O _ k1,by
       refine Row.mono (fun _ x=>x) a7 aK hrefs (kz.2 ⟨_,_,rfl,kz.2 ⟨_,_,rfl,g4,V⟩,g5⟩),by simp,by
       rw[<-k4,bx];simp only[h4,hG,aA,ay],by rw[a4];exact k5,fun _=>by rw[a4];exact bo,k7,(fun aV=>by cases aV),k8⟩) (aU.mono aT _ hrefs)
     refine⟨_,_,_,β,aa,wJ Y hc W R,.inl rfl,aM,?_,?_⟩
     ·simp only[aw,bJ,bM,bk,newAt,hR];refine⟨by simp[hA],fun J bg I=>?_⟩;unfold fg at I;rw[hE (hD.1 t).1]at I;cases I;exact⟨by rw[a4];omega,(fun U=>by cases U.1),fun _=>trivial⟩
     ·simp only[aD];exact⟨_,hE (hD.1 t).1,i4 _⟩
    ·rename_i az;refine⟨_,h,?_,ax,by simp⟩;intro H w aa ah β av f j ak aJ;have am:H[H0.length]?=some .hole:=by simpa using aJ 0 (by simp)
     have t:H[b]?=some (.arr .exact ar ai d):=ak (b,_) (by simp);rcases Q f t (j s B.1).1 with⟨q,_⟩|⟨q,C,cs,O,E,D,k1,k2,k3,k4,k5,k6,k7,k8⟩
     ·cases q.1
     have bo:=k6 rfl;obtain⟨N,aO,aY⟩:=holds k1 k2 k3;have bp:((d.drop off).take len).length=len:=by simp;omega
     obtain⟨cap,cells,bf,bz,ac,ao,ad,ap,aq,au⟩:=wu Y hc W S F ag z2 aX f C (olds:=(d.drop off).take len) bp aO
      (by rw[cK];exact fun v A=>cK.1 (f.refs b _ t) v (hQ (hM A))) (aY w.drew _ _ rfl)
      (abi hx (fun p u=>ak p (hN _ u))) (j x B.2).1 (j x B.2).2 an (by omega) (by omega)
     obtain⟨q1,Z,ab⟩:=A3 (base:=H0.length) (k:=gk P T) (e:=e) (_o':=.hole) f am sD.1 (fun q=>G (by have:=q.2;simp at this;simp[this.2])) ao ad ap aq au (fun h=>(sD.2 h).elim) (C0 F.oY);rw[hG,bp]at Z ab;exact⟨_,_,_,_,aa,ac,.inl rfl,q1,Z,ab⟩
   ·
    rename_i bI bK;obtain⟨rfl,bL,h⟩:=h;have aL:k≠.frozen:=fun e=>bI e;have aV:k≠.exact:=fun e=>bK e;have b2:(k==AK.frozen)=false:=by simpa using aL
    refine⟨_,h,?_,ax,by simpa using(hD.1 a6).1⟩;intro H w aa ah β av f j ak _;have t:H[b]?=some (.arr k ar ai d):=ak (b,_) (by simp);have aC:b<H.length:=(hD.1 t).1;have aW:(d.take len).length=len:=by simp;omega
    have bv:aU (aF H) (d.take len):=by rw[cK];exact fun v A=>cK.1 (f.refs b _ t) v (hM A)
    have a5:¬cR k (d.take len++g):=fun U=>G (by have:=U.2;simp at this;simp[this.2]);have aT:=ly t (o:=.arr k (ar+1) ai (d.take len++g)) (fun v h=>by simp only[Obj.has]at h⊢;omega)
    have bi:∀(p:Option Addr)(a0:Nat)(N:List (List dl)),av s= .slice p len a0->Row P w aa β H ai (d.take len) N->(e9 ai len (.slice p len a0)).run P w.drew= .ok N.flatten.toArray w.drew->a0<len+g.length->
     ∃n a1 w' aG aE,(dx av o).run P w=.ok n w'/\(n=.value a1\/n=.skip/\a1=undef)/\
      bP P ah aa w β H aE w' aG (H.set b (.arr k (ar+1) ai (d.take len++g)))/\aw P w' aE aG (H.set b (.arr k (ar+1) ai (d.take len++g))) (.sl b (ar+1) ai 0 (len+g.length)) a1/\
      aD (aF (H.set b (.arr k (ar+1) ai (d.take len++g)))) (.sl b (ar+1) ai 0 (len+g.length)):=by
     intro p a0 N C bQ bO bH;obtain⟨cap,cells,bf,bz,ac,ao,ad,ap,aq,au⟩:=wu Y hc W S F ag z2 aX f C (olds:=d.take len) aW bQ bv bO
      (abi hx (fun p u=>ak p (hN _ u))) (j x B.2).1 (j x B.2).2 an bH (by omega)
     have aK:=Iq (β:=β) (k':=k) (es':=d.take len++g) (al:=w.heap.size) (cap:=cap) t;have aM:bP P ah aa w β H aa {w.drew with heap:=w.heap.push (.cells cells e)} (β.at b w.heap.size cap) (H.set b (.arr k (ar+1) ai (d.take len++g))):=by
      refine bP.set f aC (fun y bX=>by simp[Bd.at,bX]) (fun _ y=>y) (fun _ y=>.inl y) (fun k hk=>by have:=f.bL k hk;simp;omega) (by simp)
       (fun k _ hk=>by simp[c6,j3 hk]) (fun _=>.inl (by simp[Bd.at])) aK
       (.inr ⟨cells,e,bf,bz,by simp[Bd.at],Row.mono (fun _ y=>y) (fun k hk=>by have:=f.bL k hk;simp[c6,j3 this]) aK ad ao,ap,by simp[Bd.at,aq],by simpa[Bd.at]using au,(fun aH=>(aV aH).elim),by
        unfold cm;rw[if_neg (by simpa using aL)];simp only[Bd.at,if_true];exact⟨fun h=>i5 _ (f.bL _ h),fun h=>i5 _ (f.dY _ h)⟩,(fun aH=>(aL aH).elim),fun am=>F.oY▸bL am⟩)
       (aU.mono aT _ ad) (fun aO v C af=>by rw[t]at C;cases C;simp only[Obj.has]at af⊢;omega) (fun L bl=>by rw[t]at bl;cases bl)
     refine⟨_,_,_,_,aa,ac,.inl rfl,aM,?_,?_⟩
     ·simp only[aw,bJ,bM];refine⟨by simp[hA],fun J bg I=>?_⟩;unfold fg at I;rw[hE aC]at I;cases I;exact⟨by rw[hG,aW];omega,fun U=>(a5 U).elim,fun _=>by simp[Bd.at]⟩
     ·simp only[aD];exact⟨_,hE aC,i4 _⟩
    simp only[bk,newAt,hR];rcases Q f t (j s B.1).1 with⟨q,C,rfl⟩|⟨q,C,cs,O,E,D,k1,k2,k3,k4,k5,k6,k7,k8⟩
    ·exact bi none 0 [] C (by simp[gR]) (by simp[e9]) (by omega)
    ·simp only[js,j2]at C
     by_cases az:len+g.length<=β.cap b
     ·
      obtain⟨M,V,bc,bd,be⟩:=um (abi hx (fun p u=>ak p (hN _ u))) f (j x B.2).1 (j x B.2).2 an;have aP:=be w rfl g.length (i4 _);rw[hV (by have:=(fH V).1;omega)]at aP;obtain⟨a,m,ae,g1,g2,g3,g4,g5⟩:=jy k2 0 len hlen;have bD:a=[]:=by have:=(fH g4).1;simpa using this
      subst bD;have aA:=(fH V).2;have ay:m.flatten.length=len*ai:=by have:=(fH g2).2;rw[this];congr 1
      have aR:cs.toList=m.flatten++(ae.flatten++D):=by rw[k3,g1];simp
      have bR:=Nat.mul_le_mul_right ai az;rw[i7]at bR;have R:=FY F ag o.type (off:=0) (sLen:=len) (sCap:=β.cap b) _ bd k1 aP (uz V) az (by rw[aA,k4];omega);rw[<-S,<-C]at R;obtain⟨aZ,bu⟩:∃r,r=cs.toList.drop (len*ai+M.flatten.length):=⟨_,rfl⟩
      have aQ:cs.toList.take (0+len*ai)++M.flatten++cs.toList.drop (0+len*ai+M.flatten.length)=(m++M).flatten++aZ:=by
       rw[j1,<-bu];congr 1;rw[aR,<-ay];simp
      rw[aQ]at R;have aI:¬aa (β.al b)/\¬ah (β.al b):=by
       unfold cm at k7;rw[if_neg (by simpa using aL)]at k7;exact k7
      have aK:cd β H β (H.set b (.arr k (ar+1) ai (d.take len++g))):=by
       have:=Iq (β:=β) (k':=k) (es':=d.take len++g) (al:=β.al b) (cap:=β.cap b) t
       rwa [Bd.T8]at this
      have a7:∀J,aa J->(w.setRow (β.al b) ((m++M).flatten++aZ).toArray).heap[J]?=w.heap[J]?:=fun J a3=>eb w _ J _ (fun a2=>aI.1 (a2▸a3));have hrefs:aU (aF H) (d.take len++g):=jx bv bc;have aM:=o9 f t q (o':=.arr k (ar+1) ai (d.take len++g)) a5 (fun v h=>by simp only[Obj.has]at h⊢;omega) k1 (new:=((m++M).flatten++aZ).toArray) aI aK
       (.inr ⟨_,O,m++M,aZ,ed w _ _ _ O _ k1,by
        refine Row.mono (fun _ x=>x) a7 aK hrefs (kz.2 ⟨_,_,rfl,?_,V⟩);simpa using g2,by simp,by
        rw[<-k4];simp only[h4,hG,h2,aA,ay,bu,List.length_drop,cy,k4];omega,by rw[hG,aW];exact az,(fun aH=>(aV aH).elim),k7,(fun h=>(aL h).elim),k8⟩) (aU.mono aT _ hrefs)
      refine⟨_,_,_,β,aa,wJ Y hc W R,.inl rfl,aM,?_,?_⟩
      ·simp only[aw,bJ,bM];refine⟨by simp[hA],fun J bg I=>?_⟩;unfold fg at I;rw[hE aC]at I;cases I;exact⟨by rw[hG,aW];omega,fun U=>(a5 U).elim,fun _=>by simp⟩
      ·simp only[aD];exact⟨_,hE aC,i4 _⟩
     ·obtain⟨N,aO,aY⟩:=holds k1 k2 k3;simp only[List.drop_zero,js]at aO aY;exact bi _ _ N C aO (aY w.drew _ _ rfl) (by omega)
 ·exact h.elim
end
section
variable{P:dz}{w:dy}{aa ah:Nat->Prop}{β:Bd}{H:aj}
variable{o:Oper}{ρ:dp->AV}{base:Nat}
def iG(bs:ByteArray):List Nat:=bs.data.toList.map (·.toNat)
theorem zZ:∀{a b:List UInt8},a.map (·.toNat)=b.map (·.toNat)->a=b
 |[],[],_=>rfl
 |[],_::_,h=>by simp at h
 |_::_,[],h=>by simp at h
 |x::a,y::b,h=>by
  simp at h;rw[UInt8.toNat_inj.1 h.1,zZ h.2]
theorem bytes_beq(a b:ByteArray):(a.toList==b.toList)=(iG a==iG b):=by
 rw[ge,ge];unfold iG
 by_cases h:a.data.toList=b.data.toList
 ·simp[h]
 ·have d:¬(a.data.toList.map (·.toNat)=b.data.toList.map (·.toNat)):=fun c=>h (zZ c)
  rw[beq_eq_false_iff_ne.2 h,beq_eq_false_iff_ne.2 d]
theorem Fv:∀a b:List UInt8,ha a b=iQ (a.map (·.toNat)) (b.map (·.toNat))
 |[],[]=>rfl
 |_::_,[]=>rfl
 |[],_::_=>rfl
 |x::a,y::b=>by
  simp only[ha,hU,iQ,Fv a b];congr 1
  ·congr 1
   by_cases h:x=y
   ·simp[h]
   ·have:¬x.toNat=y.toNat:=fun c=>h (UInt8.toNat_inj.1 c);rw[beq_eq_false_iff_ne.2 h,beq_eq_false_iff_ne.2 this]
theorem aFm{c:e8}{T j:dq}{x y:dp}{a b:List Nat}{K:PV->Prop}(g:o.op= .binOp c T x y j)(hx:ρ x= .p (.str a))(u:ρ y= .p (.str b))
 (h:oG c a b K)(ak:List (Nat×Obj)):∃v,K v/\bn P o ρ base {v:=.p v,ak}:=by
 have key:∀v,K v->(∀(w:dy)(aa:Nat->Prop)(s t:ByteArray),a=iG s->b=iG t->∃r,(he c s t).run P w=.ok r w/\aB P w aa v r)->∃v,K v/\bn P o ρ base {v:=.p v,ak}:=by
  intro v q n;refine⟨v,q,bn.same fun H w aa ah β C B i _=>?_⟩;have e:=(i x (by simp[g,g7])).1;have f:=(i y (by simp[g,g7])).1;rw[hx]at e;rw[u]at f;simp only[aw,Kr]at e f;obtain⟨s,e1,e2⟩:=e;obtain⟨t,e3,e4⟩:=f;obtain⟨r,z,A⟩:=n w aa s t e2 e4;refine⟨r,?_,by simpa only[aw]using A,by simp[aD]⟩;simp only[dx,g,e1,e3];refine eM ?_;have l:(eqGuard c T x y (.string s) (.string t)).run P w=.ok () w:=by
   unfold eqGuard
   split<;>simp
  have k:(binOp c T (.string s) (.string t)).run P w=.ok r w:=by
   cases c<;>first|(simp[oG]at h;done)|exact z
  simp[l,k]
 have m:∀s t:ByteArray,a=iG s->b=iG t->ha s.toList t.toList=iQ a b/\(s.toList==t.toList)=(a==b):=by
  intro s t hs d;rw[bytes_beq,<-hs,<-d,Fv,ge,ge];exact⟨by rw[hs,d];rfl,rfl⟩
 cases c<;>simp only[oG]at h
 case add=>
  refine key _ h.2 fun w aa s t hs d=>⟨.string (s++t),run_string_add_sum w s t ?_,?_⟩
  ·have e:a.length=s.size:=by rw[hs];simp[iG]
   have f:b.length=t.size:=by rw[d];simp[iG]
   omega
  ·rw[Kr];exact⟨_,rfl,by rw[hs,d];simp[iG,ByteArray.data_append]⟩
 case eql|neq|lss|leq|gtr|geq=>
  refine key _ h fun w aa s t hs d=>?_;obtain⟨e1,e2⟩:=m s t hs d;exact⟨_,by simp only[he,e1,e2];rfl,by simp[aB]⟩
theorem Q3{T:dq}(h:pU P T=true):P.underlying T=some .bool:=by
 unfold pU at h
 split at h
 ·assumption
 ·simp at h
theorem Fk{T:dq}{a b:dl}{r:Bool}{w:dy}(h:(g9 T a b).run P w= .ok r w)(d:(∃x,a= .bool x)\/(∃x,a= .agg x)\/(∃p n c,a= .slice p n c)\/(∃m,a= .map m)\/a= .nilFunc\/(∃f x y,a= .func f x y)\/(∃p,a= .pointer p)\/a= .nilIface):
 (binOp .eql T a b).run P w=.ok (.bool r) w/\(binOp .neq T a b).run P w=.ok (.bool !r) w:=by
 rcases d with⟨x,rfl⟩|⟨x,rfl⟩|⟨p,n,c,rfl⟩|⟨m,rfl⟩|rfl|⟨f,x,y,rfl⟩|⟨p,rfl⟩|rfl
 all_goals (constructor<;>(unfold binOp;simp[h]))
def jd.isAgg:jd->Bool
 | .agg _=>true
 |_=>false
theorem Ud{T:dq}{t:jd}(hk:kindOf P T=t)(a:t≠.bad)(w:dy):(isAgg T).run P w=.ok t.isAgg w:=by
 unfold kindOf at hk;cases hu:P.underlying T with
 |none=>rw[hu]at hk;simp at hk;exact(a hk.symm).elim
 |some d=>
  rw[hu]at hk;simp only[isAgg,hp,dk hu,ho];cases d<;>simp only at hk<;>(split at hk<;>first|(subst hk;rfl)|exact(a hk.symm).elim)
theorem ue{F:dq}{v:PV}{pre c post:List dl}{cs:Array dl}(hk:kindOf P F=aJ v)(b:aV P w aa v c)(e:cs.toList=pre++c++post):
 ∃x,(part F cs pre.length).run P w=.ok x w/\aB P w aa v x:=by
 obtain⟨j,i,f,g⟩:=wx (v:=.p v) (β:=⟨id,id⟩) (H:=[]) (w:=w) (aa:=aa) hk (by simpa only[bh]using b);have d:=(nX b).2;have a:=Ud hk d w;cases hs:aJ v with
 |bad=>exact(d hs).elim
 |leaf=>
  rw[hs]at a;obtain⟨x,rfl,hx⟩:=(rL hs c).1 b;refine⟨x,?_,hx⟩;have:cs[pre.length]?=some x:=by rw[<-cb,e];simp
  simp[part,a,this,jd.isAgg]
 |agg u=>
  rw[hs]at a;refine⟨.agg c.toArray,?_,(uC hs c).1 b⟩;have h:(sizeOf F).run P w=.ok c.length w:=by simp[sizeOf,typeInfo,f,g]
  have:cs.extract pre.length (pre.length+c.length)=c.toArray:=by
   apply b5;rw[Array.toList_extract,e];simp[List.extract_eq_take_drop]
  simp[part,a,h,this,jd.isAgg]
theorem A1{n:Nat}{b:List Nat}{v:PV}{vs:List PV}{a:List (List dl)}(h:bg P w aa (n::b) (v::vs) a):∃c cs,a=c::cs/\aV P w aa v c/\c.length=n/\bg P w aa b vs cs:=by
 simpa only[bg]using h
theorem Ft{eqF:dq->PV->PV->Option Bool}{d:Nat}(B:∀F a b r,eqF F a b=some r->kindOf P F=aJ a->kindOf P F=aJ b->∀x y,aB P w aa a x->aB P w aa b y->(g8 d F x y).run P w= .ok r w){X Y:Array dl}:
 ∀(fs:List e7)(l:List Nat)(j k:List PV)(r:Bool)(h m:List dl)(o p:List (List dl)),lM P eqF (fs.map (·.type)) j k=some r->fs.all (fun f=>f.name != "_")=true->
 (∀(i:Nat)(f:e7),fs[i]?=some f->f.offset=h.length+(l.take i).sum)->bg P w aa l j o->bg P w aa l k p->h.length=m.length->
 X.toList=h++o.flatten->Y.toList=m++p.flatten->(hb d X Y fs).run P w=.ok r w
 |[],l,j,k,r,h,m,o,p,e,_,_,_,_,_,_,_=>by
  cases j<;>cases k<;>simp[lM]at e;subst e;simp[hb]
 |f::fs,l,j,k,r,h,m,o,p,e,q,v,hx,K,A,t,hY=>by
  cases j with
  |nil=>simp[lM]at e
  |cons a j=>
   cases k with
   |nil=>simp[lM]at e
   |cons b k=>
    cases l with
    |nil=>simp[bg]at hx
    |cons n l=>
     simp only[hU,lM]at e
     split at e
     case isFalse=>simp at e
     rename_i hk
     split at e
     case h_2=>simp at e
     rename_i M N D E;simp at e;subst e;obtain⟨c,cs,rfl,hc,u,J⟩:=A1 hx;obtain⟨c',s,rfl,G,H,L⟩:=A1 K;simp only[List.all_cons,dg,bne_iff_ne]at q;have z:f.offset=h.length:=by simpa using v 0 f (by simp)
     obtain⟨x,C,Q⟩:=ue hk.1 hc (pre:=h) (post:=cs.flatten) (cs:=X) (by rw[t];simp);obtain⟨y,y1,y2⟩:=ue hk.2 G (pre:=m) (post:=s.flatten) (cs:=Y) (by rw[hY];simp);have e1:=B _ _ _ _ D hk.1 hk.2 x y Q y2;rw[<-z]at C;rw[<-A,<-z]at y1;have O:=Ft B fs l j k N (h++c) (m++c') cs s E q.2 (by
      intro i g I;have:=v (i+1) g (by simpa using I);rw[this,List.take_succ_cons,List.sum_cons,hG,u];omega) J L (by simp[A,u,H]) (by rw[t];simp) (by rw[hY];simp)
     simp only[hb,q.1,ne_eq,not_false_eq_true,if_true,hp,C,y1,e1,ho];cases M with
     |false=>simp
     |true=>simpa using O
theorem A8:∀(n:Nat)(T:dq)(v v':PV)(r:Bool),iC P n T v v'=some r->∀x y,aB P w aa v x->aB P w aa v' y->∀d,n<=d->(g8 d T x y).run P w=.ok r w
 |0,_,_,_,_,h,_,_,_,_,_,_=>by simp[iC]at h
 |n+1,T,v,v',r,h,x,y,hx,g,d,J=>by
  obtain⟨d,rfl⟩:∃e,d=e+1:=⟨d-1,by omega⟩
  unfold iC at h
  split at h
  ·rename_i a b c;simp at h;subst h;simp only[aB]at hx g;subst hx;subst g;simp[g8,dk c]
  ·rename_i k0 k a K b c
   split at h
   case isFalse=>simp at h
   rename_i hk;subst hk;simp at h;subst h;simp only[aB]at hx g;subst hx;subst g;exact run_equalIn_int w d T k k0 a b c
  ·rename_i a b c;simp at h;subst h;simp only[aB]at hx g;obtain⟨s,rfl,hs⟩:=hx;obtain⟨t,rfl,B⟩:=g;rw[run_equalIn_string w d T s t c,bytes_beq,hs,B];rfl
  ·rename_i fs u E u' G c
   split at h
   case isFalse=>simp at h
   rename_i hc;obtain⟨hk,rfl,A,q⟩:=hc;simp only[aB]at hx g;obtain⟨l,o,k1,k2,rfl⟩:=hx;obtain⟨C,p,k3,k4,rfl⟩:=g;rw[k1]at k3;cases k3;obtain⟨I,C,s1,s2,L,m,M,D⟩:=tE (P:=P) (T:=T) (u:=u') (n:=fs.size) (by unfold fw;rw[hk,c]);rw[c]at s1;cases s1;rw[k1]at m;cases m;have j:P.fieldsOf T=fs:=by simp[hn,c]
   rw[run_equalIn_struct w d T _ _ (by rw[j];exact c) A,j];refine Ft (eqF:=iC P n) (fun F a b r z _ _ x y hx g=>A8 n F a b r z x y hx g d (by omega)) fs.toList l E G r [] [] o p h q ?_ k2 k4 rfl (by simp) (by simp);intro i f hf;have hi:i<fs.size:=by
    have:=(hD.1 hf).1;simpa using this
   obtain⟨H,g1,g2,_⟩:=D i hi;rw[cb,g1]at hf;cases hf;simpa using g2
  ·simp at h
end
section
variable{P:dz}{w:dy}{aa ah:Nat->Prop}{β:Bd}{H:aj}
variable{o:Oper}{ρ:dp->AV}{base:Nat}
theorem Cn{d:e8}{T C:dq}{x y:dp}{r:Bool}{K:PV->Prop}{l:List (Nat×Obj)}(k:o.op= .binOp d T x y C)
 (D:d=.eql/\K (.bool r)\/d=.neq/\K (.bool !r))
 (I:∀(H:aj)(w:dy)(aa ah:Nat->Prop)(β:Bd)(a b:dl),bN P w aa β H ah->(∀p∈l,H[p.1]?=some p.2)->aw P w aa β H (ρ x) a->aw P w aa β H (ρ y) b->(g9 T a b).run P w=.ok r w/\
  ((∃x,a=.bool x)\/(∃x,a=.agg x)\/(∃p n c,a=.slice p n c)\/(∃m,a=.map m)\/a=.nilFunc\/(∃f x y,a=.func f x y)\/(∃p,a=.pointer p)\/(a=.nilIface/\lO y=true))/\(∀u v,a=.agg u->b=.agg v->P.eqGuardType P.depth T=false)):
 ∃v,K v/\bn P o ρ base {v:=.p v,ak:=l}:=by
 have key:∀v,K v->(∀(w:dy)(a b:dl),(g9 T a b).run P w= .ok r w->((∃x,a= .bool x)\/(∃x,a= .agg x)\/(∃p n c,a= .slice p n c)\/(∃m,a= .map m)\/a= .nilFunc\/(∃f x y,a= .func f x y)\/(∃p,a= .pointer p)\/a= .nilIface)->
  ∃q,v=.bool q/\(binOp d T a b).run P w=.ok (.bool q) w)->∃v,K v/\bn P o ρ base {v:=.p v,ak:=l}:=by
  intro v J hq;refine⟨v,J,bn.same fun H w aa ah β s G t ak=>?_⟩;obtain⟨L,z,A⟩:=I H w aa ah β _ _ G ak (t x (by simp[k,g7])).1 (t y (by simp[k,g7])).1;obtain⟨q,rfl,F⟩:=hq w _ _ L (by rcases z with h|h|h|h|h|h|h|h<;>simp[h]);refine⟨.bool q,?_,by simp[aw,aB],by simp[aD]⟩;simp only[dx,k];refine eM ?_;have E:(eqGuard d T x y (s x) (s y)).run P w=.ok () w:=by
   rcases z with⟨p,e⟩|⟨p,e⟩|⟨p,n,c,e⟩|⟨m,e⟩|e|⟨f,M,N,e⟩|⟨p,e⟩|⟨e,hc⟩
   all_goals rw[e]at A⊢
   case inr.inl=>
    cases hy:s y with
    |agg B=>
     exact run_eqGuard_agg w d T x y p B (A p B rfl hy)
    |_=>cases d<;>rfl
   case inr.inr.inr.inr.inr.inr.inr=>
    cases y<;>simp[lO]at hc;unfold eqGuard;cases d<;>simp<;>(split<;>simp_all)
   all_goals (cases d<;>rfl)
  simp[E,F]
 rcases D with⟨rfl,j⟩|⟨rfl,j⟩
 ·exact key _ j fun w a b g i=>⟨_,rfl,(Fk g i).1⟩
 ·exact key _ j fun w a b g i=>⟨_,rfl,(Fk g i).2⟩
theorem xn(T:dq)(a b:dl):∃d,9<=d+1/\g9 T a b=g8 (d+1) T a b:=⟨9999,by omega,rfl⟩
theorem GD{T:dq}{c:Bool}{b:AV}{k:tl}(h:dm P T c b=some k):
 (k=.ptr/\b=.p .dJ/\∃e,P.underlying T=some (.pointer e))\/(k=.slice/\b=.p .aL/\∃e,P.underlying T=some (.slice e))\/
 (k=.map/\b=.p .fq/\∃e f,P.underlying T=some (.map e f))\/(k=.func/\b=.p .gW/\∃e f g,P.underlying T=some (.func e f g))\/(k=.iface/\b=.p .fZ/\c=true/\∃m,P.underlying T=some (.interface m)):=by
 unfold dm at h
 split at h<;>first
  |(split at h
    ·rename_i a;simp at h;subst h;simp[a]
    ·simp at h)
  |simp at h
theorem aE5{T:dq}{c:Bool}{H0:aj}{a b:AV}{r:Bool}{k:tl}(hk:dm P T c b=some k)(h:cH H0 k a=some r){l s:dl}(ak:∀p∈dt H0 a,H[p.1]?=some p.2)(i:aw P w aa β H a l)(C:aw P w aa β H b s):
 (g9 T l s).run P w=.ok r w/\((∃x,l=.bool x)\/(∃x,l=.agg x)\/(∃p n c,l=.slice p n c)\/(∃m,l=.map m)\/l=.nilFunc\/(∃f x y,l=.func f x y)\/(∃p,l=.pointer p)\/(l=.nilIface/\c=true))/\(∀u v,l=.agg u->s=.agg v->P.eqGuardType P.depth T=false):=by
 obtain⟨d,_,I⟩:=xn T l s;rw[I];rcases GD hk with⟨rfl,rfl,e,j⟩|⟨rfl,rfl,e,j⟩|⟨rfl,rfl,e,f,j⟩|⟨rfl,rfl,e,f,g,j⟩|⟨rfl,rfl,G,m,j⟩
 all_goals simp only[aw,aB]at C
 all_goals subst C
 ·cases a<;>simp only[cH]at h
  case p v=>
   cases v<;>simp only at h<;>simp at h
   all_goals subst h
   all_goals simp only[aw,aB]at i
   ·subst i;simp[g8,dk j]
   ·obtain⟨_,_,_,_,_,_,rfl⟩:=i;simp[g8,dk j]
  case ptr B path=>
   simp only[aw,bJ,bM]at i;obtain⟨_,_,_,_,rfl,_⟩:=i
   split at h
   ·simp at h;subst h;simp[g8,dk j]
   ·simp at h
  all_goals simp at h
 ·cases a<;>simp only[cH]at h
  case p v=>
   cases v
   case seq o=>
    cases o with
    |nil=>simp at h
    |cons e o=>
     simp at h;subst h;simp only[aw,aB]at i;rcases i with⟨J,_⟩|⟨_,_,_,_,_,_,_,_,_,_,_,rfl⟩
     ·cases J
     ·simp[g8,dk j]
   all_goals simp only at h
   all_goals simp at h
   all_goals subst h
   all_goals simp only[aw,aB]at i
   ·subst i;simp[g8,dk j]
   ·obtain⟨_,_,_,_,_,_,_,_,_,_,_,_,rfl⟩:=i;simp[g8,dk j]
  case sl B ar ai off len=>
   simp only[aw,bJ,bM]at i;simp only[dt]at ak
   split at h
   case h_2=>simp at h
   rename_i A M L o t;rw[t]at ak;have z:=ak _ (h3.2 rfl)
   split at h
   case isFalse=>simp at h
   rename_i hc;obtain⟨rfl,rfl⟩:=hc;obtain⟨_,E,F⟩:=i.2 A o z
   by_cases q:cR A o
   ·rw[E q];have:r=true:=by simp at h;rw[<-h];simp[q.1,q.2]
    subst this;simp[g8,dk j]
   ·rw[F q];have:r=false:=by
     simp at h;rw[<-h];unfold cR at q
     by_cases D:A.gr=true
     ·have K:o≠[]:=fun h=>q ⟨D,h⟩;simp[K]
     ·simp[D]
    subst this;simp[g8,dk j]
  all_goals simp at h
 ·cases a<;>simp only[cH]at h
  case p v=>
   cases v<;>simp only at h<;>simp at h
   all_goals subst h
   all_goals simp only[aw,aB]at i
   ·subst i;simp[g8,dk j]
   ·obtain⟨_,_,_,_,_,_,rfl⟩:=i;simp[g8,dk j]
  case map B=>
   simp only[aw,bJ,bM]at i;simp only[dt]at ak
   split at h
   case h_2=>simp at h
   rename_i fz o t;rw[t]at ak;have z:=ak _ (h3.2 rfl);rw[i.2.1 ⟨_,_,z⟩];simp at h;subst h;simp[g8,dk j]
  all_goals simp at h
 ·cases a<;>simp only[cH]at h
  case p v=>
   cases v<;>simp only at h<;>simp at h
   all_goals subst h
   all_goals simp only[aw,aB]at i
   ·obtain⟨_,_,_,_,rfl⟩:=i;simp[g8,dk j]
   ·subst i;simp[g8,dk j]
  case func f first gU=>
   simp only[aw]at i;obtain⟨_,_,_,_,rfl⟩:=i;simp at h;subst h;simp[g8,dk j]
  all_goals simp at h
 ·cases a<;>simp only[cH]at h
  case p v=>
   cases v<;>simp only at h<;>simp at h
   all_goals subst h
   all_goals simp only[aw,aB]at i
   subst i;simp[g8,dk j,G]
  all_goals simp at h
theorem aFd{i:e8}{T s:dq}{x y:dp}{K:PV->Prop}{H0:aj}(j:o.op= .binOp i T x y s)(h:jU P i T (lO y) H0 (ρ x) (ρ y) K):
 ∃v,K v/\bn P o ρ base {v:=.p v,ak:=dt H0 (ρ x)}:=by
 unfold jU at h
 split at h
 ·rename_i k a C b hx g;exact aFh j hx g h.1 h.2 _
 ·rename_i a b hx g;exact aFm j hx g h _
 ·rename_i a b hx g;obtain⟨z,h⟩:=h;have m:=Q3 z;refine Cn (r:=a==b) j ?_ ?_
  ·split at h
   ·exact .inl ⟨rfl,h⟩
   ·exact .inr ⟨rfl,h⟩
   ·exact h.elim
  ·intro H w aa ah β n q e ak f c;rw[hx]at f;rw[g]at c;simp only[aw,aB]at f c;subst f;subst c;obtain⟨d,_,l⟩:=xn T (.bool a) (.bool b);rw[l];exact⟨by simp[g8,dk m],.inl ⟨_,rfl⟩,fun u v m _=>by cases m⟩
 ·rename_i u fs u' t hx g;obtain⟨B,h⟩:=h;obtain⟨r,e,c⟩:∃r,iC P 9 T (.st u fs) (.st u' t)=some r/\(i=.eql/\K (.bool r)\/i=.neq/\K (.bool !r)):=by
   split at h
   ·rename_i r e;exact⟨r,e,.inl ⟨rfl,h⟩⟩
   ·rename_i r e;exact⟨r,e,.inr ⟨rfl,h⟩⟩
   ·exact h.elim
  refine Cn (r:=r) j c ?_;intro H w aa ah β n q _ ak f c;rw[hx]at f;rw[g]at c;simp only[aw]at f c;refine⟨?_,?_,fun u v _ _=>by simpa[qS]using B⟩
  ·obtain⟨d,A,l⟩:=xn T n q;rw[l];exact A8 9 T _ _ r e _ _ f c (d+1) A
  ·simp only[aB]at f;obtain⟨_,_,_,_,rfl⟩:=f;exact .inr (.inl ⟨_,rfl⟩)
 ·rename_i hx g
  split at h
  case h_2=>exact h.elim
  rename_i k hk;obtain⟨r,e,c⟩:∃r,cH H0 k (ρ x)=some r/\(i=.eql/\K (.bool r)\/i=.neq/\K (.bool !r)):=by
   split at h
   ·rename_i r e;exact⟨r,e,.inl ⟨rfl,h⟩⟩
   ·rename_i r e;exact⟨r,e,.inr ⟨rfl,h⟩⟩
   ·exact h.elim
  exact Cn (r:=r) j c fun H w aa ah β n q _ ak f c=>aE5 hk e ak f c
end
section
variable{P:dz}{w:dy}{aa ah:Nat->Prop}{β:Bd}{H:aj}
variable{o:Oper}{ρ:dp->AV}{base:Nat}
theorem mU{c:dp->dl}:∀(l:List dp),(∀x∈l,aw P w aa β H (ρ x) (c x)/\aD (aF H) (ρ x))->bD P w aa β H (l.map ρ) (l.map c)/\aU (aF H) (l.map ρ)
 |[],_=>by simp[bD,aU]
 |x::l,h=>by
  have a:=h x (by simp);have b:=mU l (fun y d=>h y (by simp[d]));simp only[hU,bD,aU];exact⟨⟨_,_,rfl,a.1,b.1⟩,a.2,b.2⟩
theorem xi{H0:aj}:∀(l:List AV){j:List PV}{ak aI:List (Nat×Obj)}{H:aj}{aa:Nat->Prop}{vs:List dl},fD H0 l=some (j,ak,aI)->bN P w aa β H ah->bD P w aa β H l vs->aU (aF H) l->
 (∀p∈ak,∃f fz t,p.2=.box fz t/\H[p.1]?=some (.box f t))->∃aE,bP P ah aa w β H aE w β (bk H aI)/\bE P w aE j vs/\∀p∈aI,p.1<H0.length/\p.2≠.hole
 |[],j,ak,aI,H,aa,vs,h,i,e,_,_=>by
  simp[fD]at h;obtain⟨rfl,rfl,rfl⟩:=h;simp only[bD]at e;exact⟨aa,bP.refl i,by simpa[bE]using e,by simp⟩
 |a::l,j,ak,aI,H,aa,vs,h,i,e,d,m=>by
  simp only[bD]at e;obtain⟨y,x,rfl,n,u⟩:=e;simp only[aU]at d;cases a with
  |p v=>
   simp only[fD]at h
   split at h
   case h_2=>simp at h
   rename_i G B E k;simp at h;obtain⟨rfl,rfl,rfl⟩:=h;obtain⟨aE,q1,o,q⟩:=xi l k i u d.2 m;simp only[aw]at n;exact⟨aE,q1,by simp only[bE];exact⟨y,x,rfl,aB.mono q1.bL (fun _ _=>rfl) _ _ n,o⟩,q⟩
  |ptr b path=>
   cases path with
   |cons _ _=>simp[fD]at h
   |nil=>
    simp only[fD]at h
    split at h
    case h_2=>simp at h
    rename_i fz t G B E C k;simp at h;obtain⟨rfl,rfl,rfl⟩:=h;obtain⟨f,J,K,e1,e2⟩:=m (b,.box fz (.p t)) (by simp);cases e1;have D:iL H (.ptr b [])=some (.bZ t,H.set b (.box true (.p t))):=by
     simp only at e2;simp[iL,e2,kn]
    obtain⟨I,g,F⟩:=Hn D i n d.1;have A:b<H.length:=(hD.1 e2).1;obtain⟨z,q1,o,q⟩:=xi l k g.rel (bD.mono g.bL (fun _ _=>rfl) g.step _ _ d.2 u) (aU.mono g.eQ _ d.2) (by
     intro p c;obtain⟨f2,r,t2,g1,g2⟩:=m p (by simp[c])
     by_cases s:b=p.1
     ·rw[<-s]at g2⊢;simp only at e2;rw[e2]at g2;cases g2;exact⟨true,r,_,g1,by rw[hE A]⟩
     ·exact⟨f2,r,t2,g1,by rw[hZ s];exact g2⟩)
    refine⟨z,by simpa only[bk]using g.trans q1,?_,?_⟩
    ·simp only[bE];exact⟨y,x,rfl,aB.mono q1.bL (fun _ _=>rfl) _ _ F,o⟩
    ·intro p c;rcases hT.1 c with rfl|c
     ·exact⟨(hD.1 C).1,by simp⟩
     ·exact q p c
  |_=>simp[fD]at h
theorem Sa{f:ei}{fi ca:Array dp}(E:o.op= .makeFunc (.func f) fi ca):
 (∀a b,dW (fi.toList.map ρ)=some a->dW (ca.toList.map ρ)=some b->bn P o ρ base {v:=.p (.func f a b)})/\
 bn P o ρ base {v:=.func f (fi.toList.map ρ) (ca.toList.map ρ)}/\
 (∀(H0:aj) a b ak aI,fD H0 (fi.toList.map ρ)=some (a,[],[])->fD H0 (ca.toList.map ρ)=some (b,ak,aI)->bn P o ρ base {v:=.p (.func f a b),ak,aI}/\(∀p∈ak,H0[p.1]?=some p.2)/\(∀p∈aI,p.1<H0.length/\p.2≠.hole)):=by
 have g:∀x,x∈fi.toList\/x∈ca.toList->x∈o.op.operands:=by
  intro x hx;rw[E];simp only[g7,Array.mem_append];simpa using hx
 have u:∀(c:dp->dl)(w:dy),(dx c o).run P w=.ok (.value (.func (.func f) (fi.toList.map c).toArray (ca.toList.map c).toArray)) w:=by
  intro c w;simp only[dx,E];refine eM ?_;have j:(fi.toList.map c).toArray=fi.map c:=by apply b5;simp
  have k:(ca.toList.map c).toArray=ca.map c:=by apply b5;simp
  rw[j,k];simp[Instr.makeFunc]
 refine⟨?_,?_,?_⟩
 ·intro a b s m;refine bn.same fun H w aa ah β c z e _=>⟨_,u c w,?_,by simp[aD]⟩
  obtain⟨j,_⟩:=mU fi.toList (fun x hx=>e x (g x (.inl hx)));obtain⟨k,_⟩:=mU ca.toList (fun x hx=>e x (g x (.inr hx)));rw[lr s]at j;rw[lr m]at k;simp only[aw,aB];exact⟨_,_,jj.1 j,jj.1 k,rfl⟩
 ·refine bn.same fun H w aa ah β c z e _=>⟨_,u c w,?_,?_⟩
  ·simp only[aw];exact⟨_,_,(mU fi.toList (fun x hx=>e x (g x (.inl hx)))).1,(mU ca.toList (fun x hx=>e x (g x (.inr hx)))).1,rfl⟩
  ·simp only[aD];exact⟨(mU fi.toList (fun x hx=>e x (g x (.inl hx)))).2,(mU ca.toList (fun x hx=>e x (g x (.inr hx)))).2⟩
 ·intro H0 a b ak aI s m;have D:∀p∈ak,H0[p.1]?=some p.2/\∃fz t,p.2=.box fz t:=by
   have:∀(l:List AV)(b:List PV)(ak aI:List (Nat×Obj)),fD H0 l=some (b,ak,aI)->∀p∈ak,H0[p.1]?=some p.2/\∃fz t,p.2=.box fz t:=by
    intro l
    induction l with
    |nil=>intro b ak aI h;simp[fD]at h;obtain⟨rfl,rfl,rfl⟩:=h;simp
    |cons x l q=>
     intro b ak aI h;cases x with
     |p v=>
      simp only[fD]at h
      split at h
      case h_2=>simp at h
      rename_i B n A i;simp at h;obtain⟨rfl,rfl,rfl⟩:=h;exact q _ _ _ i
     |ptr J path=>
      cases path with
      |cons _ _=>simp[fD]at h
      |nil=>
       simp only[fD]at h
       split at h
       case h_2=>simp at h
       rename_i fz t B n A y i;simp at h;obtain⟨rfl,rfl,rfl⟩:=h;intro p d;rcases hT.1 d with rfl|d
       ·exact⟨y,_,_,rfl⟩
       ·exact q _ _ _ i p d
     |_=>simp[fD]at h
   exact this _ _ _ _ m
  have K:∀p∈aI,p.1<H0.length/\p.2≠.hole:=by
   have:∀(l:List AV)(b:List PV)(ak aI:List (Nat×Obj)),fD H0 l=some (b,ak,aI)->∀p∈aI,p.1<H0.length/\p.2≠.hole:=by
    intro l
    induction l with
    |nil=>intro b ak aI h;simp[fD]at h;obtain⟨rfl,rfl,rfl⟩:=h;simp
    |cons x l q=>
     intro b ak aI h;cases x with
     |p v=>
      simp only[fD]at h
      split at h
      case h_2=>simp at h
      rename_i B n A i;simp at h;obtain⟨rfl,rfl,rfl⟩:=h;exact q _ _ _ i
     |ptr J path=>
      cases path with
      |cons _ _=>simp[fD]at h
      |nil=>
       simp only[fD]at h
       split at h
       case h_2=>simp at h
       rename_i fz t B n A y i;simp at h;obtain⟨rfl,rfl,rfl⟩:=h;intro p d;rcases hT.1 d with rfl|d
       ·exact⟨(hD.1 y).1,by simp⟩
       ·exact q _ _ _ i p d
     |_=>simp[fD]at h
   exact this _ _ _ _ m
  refine⟨?_,fun p d=>(D p d).1,K⟩;intro H w aa ah β c z e n _;obtain⟨j,N⟩:=mU fi.toList (fun x hx=>e x (g x (.inl hx)));obtain⟨k,G⟩:=mU ca.toList (fun x hx=>e x (g x (.inr hx)));obtain⟨O,r,L,_⟩:=xi _ s z j N (by simp);simp only[bk]at r;obtain⟨I,q1,M,_⟩:=xi _ m r.rel (bD.mono r.bL (fun _ _=>rfl) r.step _ _ G k) G (by
   intro p d;obtain⟨_,fz,t,F⟩:=D p d;have C:=n p d;rw[F]at C;exact⟨fz,fz,t,F,C⟩)
  simp only[newAt,hR];refine⟨_,_,w,β,I,u c w,.inl rfl,r.trans q1,?_,by simp[aD]⟩;simp only[aw,aB];exact⟨_,_,bE.mono q1.bL (fun _ _=>rfl) _ _ L,M,rfl⟩
theorem Ag{x:dp}(d:o.op=.nilCheck x)(h:(∃b p,ρ x=.ptr b p)\/(∃b v e i p,ρ x=.bQ b v e i p)\/∃t,ρ x=.p (.bZ t)):bn P o ρ base {v:=ρ x}:=by
 refine bn.same fun H w aa ah β f l k ak=>?_;have c:=k x (by simp[d,g7]);refine⟨f x,?_,c⟩;have j:∃a,f x=.pointer (some a):=by
  rcases h with⟨b,p,hx⟩|⟨b,v,e,i,p,hx⟩|⟨t,hx⟩
  ·have c:=c.1;rw[hx]at c;simp only[aw,bJ,bM]at c;obtain⟨_,_,_,_,h,_⟩:=c;exact⟨_,h⟩
  ·have c:=c.1;rw[hx]at c;simp only[aw,bJ,bM]at c;obtain⟨_,_,_,_,h,_⟩:=c;exact⟨_,h⟩
  ·have c:=c.1;rw[hx]at c;simp only[aw,aB]at c;obtain⟨_,_,_,_,_,_,h⟩:=c;exact⟨_,h⟩
 obtain⟨a,g⟩:=j;simp[dx,d,g]
end
end Go.az
