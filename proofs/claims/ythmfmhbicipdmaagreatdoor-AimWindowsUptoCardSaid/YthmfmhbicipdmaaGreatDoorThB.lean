import Derived.Test.YthmfmhbicipdmaaGreatDoorThA
import Derived.Lib.Strings
import Derived.Laws.Append
import Derived.Laws.StructEq
import Derived.Laws.Concat
import Derived.MapKept
/- Parts of a proof. -/
set_option linter.unusedSimpArgs false
set_option linter.unusedVariables false
set_option linter.unusedSectionVars false
open Array renaming ext'->b4, getElem?_toList->b5, replicate->cb, range->cc, getD_eq_getD_getElem?->ce, mapM_eq_mapM_toList->ch, getElem_toList->ck, length_toList->cv, getElem?_push->cx, foldl_toList->cy, toList_map->c6
open Bool renaming false_eq_true->c9, and_eq_true->da
open Go renaming run_underlying->db, Value->dg, Operand->dk, TypeId->dl, execOp->dp, World->dq, Program->dz, TypeInfo->ea, setRow_other->eb, ResultVar->ec, setRow_heap->ed, run_newObj->ee, FuncId->ei, run_firstCells_some->ej, run_storeCells_at->em, IntKind->en, step_lone_go->eo, setRow_size->eq, Steps->ew, Frame->e6, Field->e7, BinOp->e8
open Go.Builtin renaming firstCells->e9, append_->fb, len_->fl, lenOf->fm, zeroCells->fv, nextslicecap->fw, copy_->gb
open Go.ByteArray renaming toList_eq->gc
open Go.Instr renaming sliceBounds->ge, slice->gg, sureAddr->gi, sliceBound->gj, indexAt->gm, sliceAt->gt, fill->gw, build->gx
open Go.Op renaming operands->gy, equalIn->gE, equal->g0, bytesLess->g7, eqFields->g8, unary->g9, stringOp->ha, intArith->hb, intBits->hd
open Go.Program renaming cellsOf->he, underlying->hg, underlyingId->hh, fieldsOf->hj
open Go.Result renaming andThen_ok->hl
open Go.Sem renaming run_bind->hm, run_pure->hn, run_map->ho, run->hp
open Go.Steps renaming trans->hr, one->ht
open Go.Value renaming oneCell'->hv, int->hw, cells->hz
open List renaming getElem?_eq_some_iff->hA, getElem?_set_self->hB, replicate->hC, length_append->hD, sum_replicate_nat->hE, take_replicate->hF, length_eq_zero_iff->hG, append_assoc->hH, mem_of_mem_take->hJ, mem_cons_of_mem->hK, getElem?_eq_getElem->hL, getElem?_replicate->hM, mem_of_mem_drop->hN, append_nil->hO, flatten_cons->hP, mem_cons->hQ, map_cons->hR, take_of_length_le->hS, mem_of_getElem?->hT, length->hU, getElem?_set_ne->hV, drop_take->hW, length_pos_iff->hX, flatten_append->hZ, mem_singleton->h0, size_toArray->h1, mem_append->h2, mem_or_eq_of_mem_set->h3, getElem_append_right->h4, getElem_append_left->h5, eq_of_mem_replicate->h6, getElem?_cons_succ->h7, replicate_succ->h8, getElem?_map->h9, getElem_mem->ih, flatten_nil->ii, nil_append->ik, mapM_cons->ip, map_take->ix, mem_map->iz
open Nat renaming le_refl->i0, lt_irrefl->i1, min_eq_left->i3, add_mul->i4, add_zero->i5, add_sub_cancel_left->i6, mul_le_mul->i7, add_assoc->i8, zero_mul->i9, zero_add->jp, sub_zero->js, ne_of_lt->jC
open Option renaming isSome_iff_exists->j1, map_none->j2, bind_some->j3, map_some->j4
open Option.some renaming injEq->j5, inj->j6
open Prod renaming snd->j7, fst->j8
namespace Go.ah
set_option linter.unusedSectionVars false
variable[Gl]
def iV(i:Nat):List AV->Env
 |[]=>[]
 |v::r=>(i,v)::iV (i+1) r
def pX(P:dz)(s:St):ec->Option AV
 | .tmp t=>some (aS s.env t)
 | .cell a T=>match aS s.env a with
  | .ptr b path=>match s.heap[b]? with
   |some (.box _ t)=>match eU t path with
    |some v=>if kindOf P T=aa v then some v else none
    |none=>none
   |_=>none
  |_=>none
def fN(P:dz)(s:St):List ec->Option (List AV)
 |[]=>some []
 |r::rs=>match pX P s r,fN P s rs with
  |some v,some vs=>some (v::vs)
  |_,_=>none
def oneOf:List AV->AV
 |[v]=>v
 |vs=>match eO vs with
  |some l=>.p (.aE l)
  |none=>.aE vs
def kg(f:AV->Option PV):List AV->Option (List PV)
 |[]=>some []
 |v::vs=>match f v,kg f vs with
  |some p,some a=>some (p::a)
  |_,_=>none
def eC(H:an):Nat->AV->Option PV
 |0,.p v=>some v
 |0,_=>none
 |n+1,x=>match x with
  | .p v=>some v
  | .sl b aC aj off len=>match H[b]? with
   |some (.arr k e c es)=>
    if aC=e/\aj=c/\off+len<=es.length then
     if k.gr=true/\es=[]then some .aP else
     match kg (eC H n) ((es.drop off).take len)with
     |some d=>some (.cT (k== .exact&&off+len==es.length) d)
     |none=>none
    else none
   |_=>none
  | .ptr b path=>match H[b]? with
   |some (.box _ t)=>match eU t path with
    |some s=>match eC H n s with
     |some p=>some (.cq p)
     |none=>none
    |none=>none
   |_=>none
  | .map b=>match H[b]? with
   |some (.map _ es)=>some (.eg es)
   |_=>none
  | .func f fi ca=>match kg (eC H n) fi,kg (eC H n) ca with
   |some a,some b=>some (.func f a b)
   |_,_=>none
  | .st u fs=>match kg (eC H n) fs with
   |some l=>some (.st u l)
   |none=>none
  | .aE vs=>match kg (eC H n) vs with
   |some l=>some (.aE l)
   |none=>none
  | .b8 _ _ _ _ _=>none
section
variable{P:dz}{w:dq}{ad ai:Nat->Prop}{β:Bd}{H:an}
def Ee(ad:Nat->Prop)(β:Bd)(H:an)(k:Nat):Prop:=ad k\/∃(b:Nat)(o:Obj),H[b]?=some o/\o.live/\β.au b=k
theorem LH:∀{n:Nat}{v:AV}{p:PV},eC H n v=some p->(aa v=aL p)
 |0,v,p,h=>by
  cases v<;>simp[eC]at h;subst h;rfl
 |n+1,v,p,h=>by
  cases v<;>simp only[eC]at h
  case p v=>simp at h;subst h;rfl
  case b8=>simp at h
  case sl b aC aj off len=>
   split at h
   ·split at h
    ·split at h
     ·simp at h;subst h;rfl
     ·split at h
      ·simp at h;subst h;rfl
      ·simp at h
    ·simp at h
   ·simp at h
  case ptr b path=>
   split at h
   ·split at h
    ·split at h
     ·simp at h;subst h;rfl
     ·simp at h
    ·simp at h
   ·simp at h
  all_goals
   split at h
   ·simp at h;subst h;rfl
   ·simp at h
theorem Kf{v:AV}{p:PV}{cs:List dg}(hs:aa v=aL p)(hc:br P w ad β H v cs){I:Nat->Prop}(h:∀x,aD P w ad β H v x->aF P w I p x):aW P w I p cs:=by
 cases a:aa v with
 |bad=>exact((nY hc).2 a).elim
 |leaf=>
  obtain⟨c,rfl,b⟩:=(C4 a cs).1 hc;exact(tL (hs▸a) _).2 ⟨c,rfl,h _ b⟩
 |agg u=>exact(wx (hs▸a) cs).2 (h _ ((Ox a cs).1 hc))
section lists
variable{f:AV->Option PV}{I:Nat->Prop}(hf:∀v p,f v=some p->aa v=aL p/\(aG (aJ H) v->∀x,aD P w ad β H v x->aF P w I p x))
include hf
theorem yO:∀{vs:List AV}{a:List PV},kg f vs=some a->ba (aJ H) vs->∀b,bJ P w ad β H vs b->bL P w I a b
 |[],a,h,_,b,hx=>by
  simp[kg]at h;subst h;simpa[bJ,bL]using hx
 |v::vs,a,h,c,b,hx=>by
  simp only[kg]at h
  split at h
  case h_2=>simp at h
  rename_i q g hq d;simp at h;subst h;simp only[ba]at c;simp only[bJ]at hx;obtain⟨y,e,rfl,k1,k2⟩:=hx;simp only[bL];exact⟨y,e,rfl,(hf _ _ hq).2 c.1 _ k1,yO d c.2 _ k2⟩
theorem Cg:∀{vs:List AV}{b:List PV},kg f vs=some b->ba (aJ H) vs->∀l a,bM P w ad β H l vs a->bm P w I l b a
 |[],b,h,_,l,a,hx=>by
  simp[kg]at h;subst h;cases l<;>simp_all [bM,bm]
 |v::vs,b,h,d,l,a,hx=>by
  simp only[kg]at h
  split at h
  case h_2=>simp at h
  rename_i q g hq e;simp at h;subst h;simp only[ba]at d;cases l with
  |nil=>simp[bM]at hx
  |cons m l=>
   simp only[bM]at hx;obtain⟨c,cs,rfl,k1,k2,k3⟩:=hx;simp only[bm];exact⟨c,cs,rfl,Kf (hf _ _ hq).1 k1 ((hf _ _ hq).2 d.1),k2,Cg e d.2 _ _ k3⟩
end lists
theorem yA(e:bX P w ad β H ai):∀(n:Nat)(v:AV)(p:PV),eC H n v=some p->aG (aJ H) v->∀x,aD P w ad β H v x->aF P w (Ee ad β H) p x
 |0,v,p,h,_,x,hx=>by
  cases v<;>simp[eC]at h;subst h;simp only[aD]at hx;exact aF.mono (fun _=>.inl) (fun _ _=>rfl) _ _ hx
 |n+1,v,p,h,g,x,hx=>by
  have hf:∀v p,eC H n v=some p->aa v=aL p/\(aG (aJ H) v->∀x,aD P w ad β H v x->aF P w (Ee ad β H) p x):=fun v p h=>⟨LH h,yA e n v p h⟩
  cases v<;>simp only[eC]at h
  case p v=>
   simp at h;subst h;simp only[aD]at hx;exact aF.mono (fun _=>.inl) (fun _ _=>rfl) _ _ hx
  case b8=>simp at h
  case sl b aC aj off len=>
   split at h
   case h_2=>simp at h
   rename_i k ae Y i d
   split at h
   case isFalse=>simp at h
   rename_i L;obtain⟨rfl,rfl,z⟩:=L;simp only[aD]at hx;obtain⟨_,hx⟩:=hx;simp only[bU]at hx;obtain⟨v1,v2,v3⟩:=hx k i d
   split at h
   ·rename_i y;simp at h;subst h;simp[aF,v2 y]
   ·rename_i y
    split at h
    case h_2=>simp at h
    rename_i W O;simp at h;subst h;rw[v3 y];rcases e.cO b _ d with hold|⟨cs,T,C,rest,j,r,B,G,Z,I,ab,ac⟩
    ·exact(y hold).elim
    obtain⟨a,m,c,e1,e2,e3,e4,e5⟩:=jV r off len v1;have R:ba (aJ H) ((i.drop off).take len):=by
     have:=e.refs b _ d;rw[dc];intro v S;exact dc.1 this v (hN (hJ S))
    have M:((i.drop off).take len).length=len:=by simp;omega
    have k1:=Cg hf O R _ _ e2;have A:W.length=len:=by have:=(vm k1).2.1;simp at this;omega
    simp only[aF];refine⟨β.au b,off*aj,β.cap b-off,aj,m,by rw[A,<-M];exact k1,fun _=>.inr ⟨b,_,d,y,rfl⟩,?_,?_,?_,none,.inl rfl,?_⟩
    ·rw[<-e3];exact mg j (post:=c.flatten++rest) (by rw[B,e1];simp)
    ·intro hf;simp at hf;rw[A,I hf.1];omega
    ·rw[A];omega
    ·rw[A]
  case ptr b path=>
   split at h
   case h_2=>simp at h
   rename_i fz t d
   split at h
   case h_2=>simp at h
   rename_i s hs
   split at h
   case h_2=>simp at h
   rename_i q hq;simp at h;subst h;simp only[aD]at hx;obtain⟨_,hx⟩:=hx;simp only[bU]at hx;obtain⟨X,V,o,rfl,N,hx⟩:=hx;obtain⟨rfl,rfl⟩:=hx (.inl ⟨fz,_,d⟩);obtain⟨cs,T,j,r,B,G⟩:=e.cO b _ d;obtain⟨pre,xs,post,e1,e2,e3,_⟩:=pN r hs N;have Q:aG (aJ H) s:=vK hs (e.refs b _ d);simp only[aF];refine⟨β.au b,V,xs,Kf (LH hq) e3 (yA e n _ _ hq Q),.inr ⟨b,_,d,trivial,rfl⟩,?_,rfl⟩;rw[<-e2];exact mg j e1
  case map b=>
   split at h
   case h_2=>simp at h
   rename_i fz i d;simp at h;subst h;simp only[aD]at hx;obtain⟨_,hx⟩:=hx;simp only[bU]at hx;have hx:=hx.1 ⟨fz,i,d⟩;obtain⟨E,clock,j,r,B⟩:=e.cO b _ d;simp only[aF];exact⟨β.au b,E,clock,.inr ⟨b,_,d,trivial,rfl⟩,j,cL.mono (fun _=>.inl) (fun _ _=>rfl) _ _ r,hx⟩
  case func f a b=>
   split at h
   case h_2=>simp at h
   rename_i a' b' J K;simp at h;subst h;simp only[aG]at g;simp only[aD]at hx;obtain⟨F,D,k1,k2,k3⟩:=hx;simp only[aF];exact⟨F,D,yO hf J g.1 _ k1,yO hf K g.2 _ k2,k3⟩
  case st u fs=>
   split at h
   case h_2=>simp at h
   rename_i l z;simp at h;subst h;simp only[aG]at g;simp only[aD]at hx;obtain⟨U,C,k1,k2,k3⟩:=hx;simp only[aF];exact⟨U,C,k1,Cg hf z g _ _ k2,k3⟩
  case aE vs=>
   split at h
   case h_2=>simp at h
   rename_i l z;simp at h;subst h;simp only[aG]at g;simp only[aD]at hx;obtain⟨xs,k1,k2⟩:=hx;simp only[aF];exact⟨xs,yO hf z g _ k1,k2⟩
end
section
variable{P:dz}{ag:ei->Bool}{fit:Nat->Array Oper->Bool}
theorem Ce:∀(args:List AV)(i x:Nat),aS (iV i args) x=if i<=x then(args[x-i]?).getD (.p .undef)else .p .undef
 |[],i,x=>by simp[iV,aS]
 |v::r,i,x=>by
  simp only[iV,aS,Ce r]
  by_cases h:x=i
  ·subst h;simp
  ·by_cases b:i<=x
   ·have a:i+1<=x:=by omega
    simp only[h,b,a,if_true,if_false];rw[show x-i=(x-(i+1))+1 by omega,h7]
   ·have a:¬i+1<=x:=by omega
    simp[h,b,a]
theorem tM{w:dq}{ad:Nat->Prop}{β:Bd}{H:an}:∀{vs:List AV}{xs:List dg},bJ P w ad β H vs xs->xs.length=vs.length/\∀i:Nat,aD P w ad β H ((vs[i]?).getD (.p .undef)) ((xs[i]?).getD undef)
 |[],xs,h=>by simp only[bJ]at h;subst h;simp[aD,aF]
 |v::vs,xs,h=>by
  simp only[bJ]at h;obtain⟨y,c,rfl,a,b⟩:=h;have:=tM b;refine⟨by simp[this.1],fun i=>?_⟩;cases i with
  |zero=>simpa using a
  |succ i=>simpa using this.2 i
theorem W9{ai ad:Nat->Prop}{β:Bd}{w:dq}{H:an}{args:List AV}{a:List dg}{n:Nat}(f:bX P w ad β H ai)(d:bJ P w ad β H args a)(g:ba (aJ H) args)(i:args.length<=n):
 cQ P n ai ad β ⟨iV 0 args,H⟩ (a.toArray++cb (n-a.length) undef) w:=by
 obtain⟨b,c⟩:=tM d;refine⟨f,fun x=>?_,fun x=>?_,by simp[b];omega⟩
 ·have e:(a.toArray++cb (n-a.length) undef).getD x undef=(a[x]?).getD undef:=by
   rw[ce,<-b5];simp only[Array.toList_append,Array.toList_replicate]
   by_cases hx:x<a.length
   ·rw[List.getElem?_append_left (by simpa using hx)]
   ·rw[List.getElem?_append_right (by simpa using hx)];simp only[hM];rw[List.getElem?_eq_none (by simpa using hx)]
    split<;>rfl
  rw[e,Ce];simpa using c x
 ·rw[Ce];simp only[Nat.zero_le,if_true,js];cases h:args[x]? with
  |none=>simp[aG]
  |some v=>exact dc.1 g v (hT h)
theorem Ju{w:dq}{ad:Nat->Prop}{β:Bd}{H:an}{T:dl}{v:AV}{au off:Nat}{a:List dg}(hk:kindOf P T=aa v)(f:br P w ad β H v a)(hc:gX w au off a):
 ∃g,(loadVar T ⟨au,off,none⟩).run P w=.ok g w/\aD P w ad β H v g:=by
 obtain⟨o,n⟩:=nY f;have m:∀j,(⟨au,off,none⟩:Addr).add j=⟨au,off+j,none⟩:=by intro j;unfold Addr.add;split<;>simp_all
 unfold kindOf at hk;cases hs:aa v with
 |bad=>exact(n hs).elim
 |leaf=>
  rw[hs]at hk;obtain⟨c,rfl,e⟩:=(C4 hs a).1 f;refine⟨c,?_,e⟩;have h:=hc 0 (by simp);simp only[i5,List.getElem_cons_zero]at h;have b:(isAgg T).run P w=.ok false w:=by
   cases hu:P.underlying T with
   |none=>simp[hu]at hk
   |some d=>
    cases d<;>simp only[hu]at hk<;>first
     |(simp[isAgg,db hu];done)
     |(split at hk<;>simp at hk)
  simp[loadVar,b,h]
 |agg u=>
  rw[hs]at hk;have e:=(Ox hs a).1 f;refine⟨.agg a.toArray,?_,e⟩;have b:(isAgg T).run P w=.ok true w/\P.cellsOf T=a.length:=by
   rw[o,hs];cases hu:P.underlying T with
   |none=>simp[hu]at hk
   |some d=>
    cases d<;>simp only[hu]at hk<;>first
     |(split at hk
       ·rename_i hc;simp at hk;subst hk;simp at hc;refine⟨by simp[isAgg,db hu],hc.2⟩
       ·simp at hk)
     |(split at hk<;>simp at hk)
  obtain⟨i,hi⟩:∃i,P.info? T=some i:=by
   cases hi:P.info? T with
   |none=>
    have l:=b.1;simp[isAgg,underlying,hg,hi]at l
   |some i=>exact⟨i,rfl⟩
  have q:(sizeOf T).run P w=.ok a.length w:=by
   rw[<-b.2];simp[sizeOf,typeInfo,hi,he]
  have p:=run_loadCells_list (P:=P) w ⟨au,off,none⟩ a (fun j x hx=>by
   rw[m];have k:j<a.length:=(hA.1 hx).1;rw[hc j k];rw[hL k]at hx;exact hx)
  simp[loadVar,b.1,q,p]
theorem WV{n:Nat}{ai ad:Nat->Prop}{β:Bd}{s:St}{t:Array dg}{w:dq}(h:cQ P n ai ad β s t w){g:ec}{v:AV}(c:pX P s g=some v):
 ∃e,(match g with
  | .tmp x=>(pure (t.getD x undef):Sem dg)
  | .cell a T=>do loadVar T (<-asAddr (t.getD a undef))).run P w=.ok e w/\aD P w ad β s.heap v e/\aG (aJ s.heap) v:=by
 cases g with
 |tmp x=>
  simp[pX]at c;subst c;exact⟨_,rfl,h.env x,h.gN x⟩
 |cell a T=>
  simp only[pX]at c;have d:=h.env a
  split at c
  case h_2=>simp at c
  rename_i b B k;rw[k]at d
  split at c
  case h_2=>simp at c
  rename_i fz r f
  split at c
  case h_2=>simp at c
  rename_i v' hs
  split at c
  case isFalse=>simp at c
  rename_i hc;simp at c;subst c;simp only[aD]at d;obtain⟨_,d⟩:=d;simp only[bU]at d;obtain⟨y,q,o,p,m,d⟩:=d;obtain⟨rfl,rfl⟩:=d (.inl ⟨fz,r,f⟩);obtain⟨cs,u,i,j,z,A⟩:=h.heap.cO b _ f;obtain⟨pre,xs,post,e1,e2,e3,_⟩:=pN j hs m;have l:gX w (β.au b) q xs:=by rw[<-e2];exact mg i e1
  obtain⟨e,k1,k2⟩:=Ju hc e3 l;refine⟨e,?_,k2,vK hs (h.heap.refs b _ f)⟩;simp only[p,asAddr];simp[k1]
theorem Jx{n:Nat}{ai ad:Nat->Prop}{β:Bd}{s:St}{t:Array dg}{w:dq}(h:cQ P n ai ad β s t w):∀{d:List ec}{vs:List AV},fN P s d=some vs->
 ∃c:List dg,(d.mapM (fun i:ec=>match i with
  | .tmp x=>(pure (t.getD x undef):Sem dg)
  | .cell a T=>do loadVar T (<-asAddr (t.getD a undef)))).run P w=.ok c w/\bJ P w ad β s.heap vs c/\ba (aJ s.heap) vs
 |[],vs,b=>by
  simp[fN]at b;subst b;exact⟨[],by simp,by simp[bJ],by simp[ba]⟩
 |r::d,vs,b=>by
  simp only[fN]at b
  split at b
  case h_2=>simp at b
  rename_i v j f g;simp at b;subst b;obtain⟨e,k1,k2,k3⟩:=WV h f;obtain⟨c,g1,g2,g3⟩:=Jx h g;refine⟨e::c,?_,by simp only[bJ];exact⟨e,c,rfl,k2,g2⟩,by simp only[ba];exact⟨k3,g3⟩⟩;simp only[ip,hm,k1,hl,g1];rfl
theorem KM{w:dq}{ad:Nat->Prop}{β:Bd}{H:an}{vs:List AV}{a:List dg}(h:bJ P w ad β H vs a)(d:ba (aJ H) vs):
 aD P w ad β H (oneOf vs) (if h:a.toArray.size=1 then a.toArray[0]else .tuple a.toArray)/\aG (aJ H) (oneOf vs):=by
 have b:=(tM h).1
 match vs,a,h with
 |[v],[c],h=>
  simp only[bJ]at h;obtain⟨y,j,g,e,i⟩:=h;cases g;simp only[ba]at d;exact⟨by simpa[oneOf]using e,by simpa[oneOf]using d.1⟩
 |[],[],h=>exact⟨by simp[oneOf,eO,aD,aF,bL],by simp[oneOf,eO,aG]⟩
 |v1::v2::vs,c1::c2::a,h=>
  have hs:¬(c1::c2::a).toArray.size=1:=by simp
  rw[dif_neg hs];simp only[oneOf];cases f:eO (v1::v2::vs)with
  |none=>exact⟨by simp only[aD];exact⟨_,h,rfl⟩,by simpa only[aG]using d⟩
  |some l=>
   have:=mn f;rw[this]at h;exact⟨by simp only[aD,aF];exact⟨_,jI.1 h,rfl⟩,by simp[aG]⟩
 |[],_::_,_=>simp at b
 |[_],[],_=>simp at b
 |[_],_::_::_,_=>simp at b
 |_::_::_,[],_=>simp at b
 |_::_::_,[_],_=>simp at b
theorem takes{fr:e6}{cs:List e6}(c:fr.mode= .returning):∀(a:List Nat)(w:dq),a.Nodup->(∀r∈a,w.heap[r]?=some (.deferred (some [])))->
 ∃w',ew P (lone {fr with defers:=a.map mark} cs w) (lone {fr with defers:=[]} cs w')/\w'.heap.size=w.heap.size/\(∀k,k∉a->w'.heap[k]?=w.heap[k]?)/\(w'.os=w.os/\w'.output=w.output)
 |[],w,_,_=>⟨w,Steps.refl _ _,rfl,fun _ _=>rfl,rfl,rfl⟩
 |r::a,w,b,h=>by
  rw[List.nodup_cons]at b;have f:=h r (by simp);have hk:=run_takeDeferred (P:=P) f;have m:=(Array.getElem?_eq_some_iff.1 f).1;obtain⟨w',g,i,j,l⟩:=takes c a (w.putObj r (.deferred none)) b.2 (fun x hx=>(World.putObj_heap_other (fun(e:x=r)=>b.1 (e▸hx))).trans (h x (by simp[hx])));refine⟨w',(ht (step_collected (fr:={fr with defers:=(r::a).map mark}) (d:=mark r) (ds:=a.map mark) (by simp[c]) rfl rfl hk)).trans g,by simpa using i,fun k hk=>?_,l⟩;simp only[hQ,not_or]at hk;exact(j k hk.2).trans (World.putObj_heap_other hk.1)
theorem JQ{N:Nat}{f:ei}{fn:Func}{c:Code}(z:mc P ag)(y:tE P ag fit)(hf:P.funcs[f]?=some fn)(F:fn.body=some c)(M:codeOk fit fn.ntmps c=true)
 {args:List AV}{H:an}{R:List AV->St->Prop}(K:args.length<=fn.ntmps)
 (T:cd P ag (fn.ntmps,N) c (fun e s=>(match e with
  | .exit _=>False
  |_=>True)/\∃vs,fN P s fn.results.toList=some vs/\R vs s) ⟨iV 0 args,H⟩)
 {w:dq}{ad ai:Nat->Prop}{β:Bd}{d:List dg}(i:bX P w ad β H ai)(q:bJ P w ad β H args d)(O:ba (aJ H) args):
 Calls P f d.toArray w fun e w'=>∃vs s a aH aK t,e=.returned (if h:a.toArray.size=1 then a.toArray[0]else .tuple a.toArray)/\R vs s/\cQ P fn.ntmps ai aH aK s t w'/\dN N ai ad w β H ai aH w' aK s.heap/\
  bJ P w' aH aK s.heap vs a/\ba (aJ s.heap) vs:=by
 intro cs;have X:=(tM q).1;obtain⟨g,j⟩:∃g:e6,g={fn:=f,tmps:=#[],todo:=[],defers:=[],mode:=.run,kind:=.normal}:=⟨_,rfl⟩
 have G:Frame.enter P f d.toArray .normal=bC g (d.toArray++cb (fn.ntmps-d.length) undef) [] [.code c]:=by
  subst j;simp[Frame.enter,bC,hf,F]
 obtain⟨e,s,V,aH,aK,t,w1,W,⟨A,vs,B,C⟩,o,m,b,D⟩:=mU (fr:=g) (cs:=cs) (ds:=[]) z y c [] M T (W9 i q O K) (fun l I=>by subst j;cases I);obtain⟨rs,u,L,n,Y,_⟩:=D;rw[hO]at u;subst u;rw[G]
 have p:∀todo,ew P (lone (bC g (d.toArray++cb (fn.ntmps-d.length) undef) [] [.code c]) cs w) (lone {bC g t (rs.map mark) todo with mode:= .returning} cs w1)->
  ∃e w' fr,(∃vs s a aH aK t,e=.returned (if h:a.toArray.size=1 then a.toArray[0]else .tuple a.toArray)/\R vs s/\cQ P fn.ntmps ai aH aK s t w'/\dN N ai ad w β H ai aH w' aK s.heap/\
   bJ P w' aH aK s.heap vs a/\ba (aJ s.heap) vs)/\Comes P (lone (bC g (d.toArray++cb (fn.ntmps-d.length) undef) [] [.code c]) cs w) (lone fr cs w') e/\fr.fn=f/\fr.leaving P w' e:=by
  intro todo aO;obtain⟨w',t1,t2,t3,t4⟩:=takes (P:=P) (fr:={bC g t (rs.map mark) todo with mode:=.returning}) (cs:=cs) rfl rs w1 L (fun r i=>(n r i).2.2.2);have S:∀k,aH k->w'.heap[k]?=w1.heap[k]?:=fun k hk=>t3 k (fun i=>(n k i).2.2.1 hk);have v:cQ P fn.ntmps ai aH aK s t w':=⟨m.heap.shut b.eh (R:=fun k=>k∈rs) (fun x hx=>⟨(n x hx).2.1,(n x hx).2.2.1⟩) t2 t3,fun x=>aD.mono (fun _ x=>x) S (cC.refl _ _) _ _ (m.gN x) (m.env x),m.gN,m.size⟩
  have E:dN N ai ad w β H ai aH w' aK s.heap:=⟨fun _ x=>x,b.bS,b.fresh,⟨by rw[t2];exact b.ext.size,fun k hk=>(t3 k (fun J=>by
   have:=(n k J).1;have:=hk.elim (i.eh k) (i.bS k);omega)).trans (b.ext.same k hk),t4.1.trans b.ext.io.1,t4.2.trans b.ext.io.2⟩,b.step,b.fa,b.loop⟩
  obtain⟨a,g1,g2,g3⟩:=Jx v B;have Q:(results fn t).run P w'=.ok (if h:a.toArray.size=1 then a.toArray[0]else .tuple a.toArray) w':=by
   simp only[results];rw[ch];rw[hm,ho]
   erw [g1]
   rfl
  refine⟨_,w',{bC g t [] todo with mode:=.returning},⟨vs,s,a,aH,aK,t,rfl,C,v,E,g2,g3⟩,hr aO t1,by subst j;rfl,?_⟩;subst j;exact⟨rfl,rfl,rfl,fn,hf,Q⟩
 cases e with
 |exit id=>exact A.elim
 |normal=>
  exact p [] (hr o (.one (eo (by subst j;simp[stepG,stepG.exec,bC]))))
 |ret=>
  obtain⟨U,o⟩:=o;exact p (.code .ret::U) (hr o (.one (eo (by subst j;simp[stepG,stepG.exec,bC]))))
theorem Mo{f:ei}{fn:Func}{c:Code}(n:mc P ag)(m:tE P ag fit)(A:Enters P f)(hf:P.funcs[f]?=some fn)(z:fn.body=some c)(E:codeOk fit fn.ntmps c=true)
 {args:List PV}{v:PV}(D:args.length<=fn.ntmps)
 (I:cd P ag (fn.ntmps,0) c (fun e s=>(match e with
  | .exit _=>False
  |_=>True)/\∃vs,fN P s fn.results.toList=some vs/\eC s.heap 9 (oneOf vs)=some v) ⟨iV 0 (args.map .p),[]⟩):so P f args v:=by
 refine⟨A,fun w ad J C B y=>?_⟩;have F:bX P w ad ⟨id,id⟩ [] (fun k=>k<w.heap.size):=⟨by simp,by simp,by simp,C,fun _ h=>h,B⟩
 refine(JQ n m hf z E (R:=fun vs s=>eC s.heap 9 (oneOf vs)=some v) (by simpa using D) I F (jI.2 y) (jg _ _)).mono ?_;rintro e w' ⟨vs,s,K,aH,aK,t,rfl,x,hs,d,G,H⟩;obtain⟨q,r⟩:=KM G H;have u:=yA hs.heap _ _ _ x r _ q;refine⟨_,Ee aH aK s.heap,rfl,fun k hk=>.inl (d.bS k hk),?_,?_,d.ext.size,fun k hk=>d.ext.same k (.inl hk),d.ext.io,u⟩
 ·rintro k (hk|⟨b,o,j,g,rfl⟩)
  ·rcases d.fresh k hk with h|h
   ·exact .inl h
   ·exact .inr (by omega)
  ·by_cases l:aK.au b<w.heap.size
   ·
    left;have a:=hs.heap.cO b o j;have:aH (aK.au b)\/¬(aK.au b<w.heap.size):=by
     have key:∀fz,cK aH aK (fun k=>k<w.heap.size) fz b->aH (aK.au b)\/¬(aK.au b<w.heap.size):=fun fz h=>by
      cases fz with
      |true=>exact .inl h
      |false=>exact .inr h.2
     cases o with
     |hole=>exact g.elim
     |dead=>exact g.elim
     |box fz t=>obtain⟨_,_,_,_,h,_⟩:=a;exact key _ h
     |arr k aC aj es=>
      rcases a with a|⟨_,_,_,_,_,_,_,_,_,_,h,_⟩
      ·exact(g a).elim
      ·exact key _ h
     |map fz es=>obtain⟨_,_,_,_,h⟩:=a;exact key _ h
     |dy s pos=>obtain⟨_,_,_,h⟩:=a;exact key _ h
     |loop L=>obtain⟨_,_,_,_,_,_,h⟩:=a;exact key _ h
    rcases this with h|h
    ·rcases d.fresh _ h with i|i
     ·exact i
     ·exact(i l).elim
    ·exact(h l).elim
   ·exact .inr (by omega)
 ·rintro k (hk|⟨b,o,j,g,rfl⟩)
  ·exact hs.heap.bS k hk
  ·exact hs.heap.mY j g
def uu(P:dz)(a:List ec)(N:Nat)(H':an)(v:AV)(e:bw)(s:St):Prop:=
 (match e with
  | .exit _=>False
  |_=>True)/\∃vs,fN P s a=some vs/\oneOf vs=v/\(H'=s.heap\/(cV N s ⟨[],H'⟩/\aG (aJ H') v))
theorem YD{f:ei}{fn:Func}{c:Code}(q:mc P ag)(p:tE P ag fit)(u:Enters P f)(hf:P.funcs[f]?=some fn)(j:fn.body=some c)(A:codeOk fit fn.ntmps c=true)
 {args:List AV}{H H':an}{v:AV}(z:args.length<=fn.ntmps)(G:cd P ag (fn.ntmps,H.length) c (uu P fn.results.toList H.length H' v) ⟨iV 0 args,H⟩):cA P f H args H' v:=by
 refine⟨u,fun w ad ai β I B r C=>?_⟩;refine(JQ q p hf j A (R:=fun vs s=>oneOf vs=v/\(H'=s.heap\/(cV H.length s ⟨[],H'⟩/\aG (aJ H') v))) z G B r C).mono ?_;rintro e w' ⟨vs,s,g,aH,aK,t,rfl,⟨rfl,a⟩,hs,m,F,E⟩;obtain⟨i,k⟩:=KM F E;obtain⟨d,k1,k2,k3⟩:dN H.length ai ad w β H ai aH w' aK H'/\bX P w' aH aK H' ai/\aD P w' aH aK H' (oneOf vs) (if h:g.toArray.size=1 then g.toArray[0]else .tuple g.toArray)/\aG (aJ H') (oneOf vs):=by
  rcases a with rfl|⟨a,D⟩
  ·exact⟨m,hs.heap,i,k⟩
  ·refine⟨m.trans (a.fj (β:=aK) (ai:=ai) (ad:=aH) (w:=w')),(a.rel hs).heap,?_,D⟩;rcases a with a|a
   ·have e:H'=s.heap:=by rw[<-a]
    rw[e];exact i
   ·exact aD.mono (fun _ x=>x) (fun _ _=>rfl) a.1.step _ _ k i
 refine⟨_,aK,aH,rfl,⟨d.bS,d.fresh,d.ext,d.step.full,k1,fun x hx=>?_,fun b j=>?_⟩,k2,k3⟩
 ·obtain⟨o,n,y⟩:=hx;exact d.fa x (hA.1 n).1 ⟨o,n,y⟩
 ·obtain⟨L,l⟩:=j;exact d.loop b (hA.1 l).1 ⟨L,l⟩
theorem cQ.post{n:Nat}{ai ad aH:Nat->Prop}{β aK:Bd}{s:St}{H':an}{t:Array dg}{w w':dq}(h:cQ P n ai ad β s t w)(a:b6 P ai ad w β s.heap aH w' aK H'):cQ P n ai aH aK ⟨s.env,H'⟩ t w':=
 ⟨a.rel,fun x=>aD.mono a.bS (fun k hk=>a.ext.same k (.inr hk)) a.step _ _ (h.gN x) (h.env x),fun x=>aG.mono a.fa _ (h.gN x),h.size⟩
def rG:List Tmp->List AV->Env->Env
 |t::ts,v::vs,e=>rG ts vs ((t,v)::e)
 |_,_,e=>e
def ia:bw->Option Code
 | .normal=>none
 | .exit id=>some (.exit id)
 | .ret=>some .ret
def tG(b:Nat)(K:an->AV->Prop)(e:bw)(s:St):Prop:=
 match s.heap[b]? with
 |some (.loop L)=>K (s.heap.set b (.loop {L with st:=if(ia e).isNone then .ready else .done,pending:=ia e})) (.p (.bool (ia e).isNone))
 |_=>False
def yz(P:dz)(ag:ei->Bool)(q:Cx)(b:Nat)(body:Code)(K:an->AV->Prop)(e:bw)(s:St):Prop:=
 match e,s.heap[b]? with
 | .normal,some (.loop L)=>L.st=.ready/\cd P ag q body (tG b K) ⟨s.env,s.heap.set b (.loop {L with st:=.busy})⟩
 |_,_=>False
def zo(P:dz)(ag:ei->Bool)(L:dW)(b:Nat)(args:List AV)(H:an)(K:an->AV->Prop):Prop:=
 cd P ag (L.n,H.length) L.assign (yz P ag (L.n,H.length) b L.body K) ⟨rG L.params args L.env,H⟩
def rq(ts:List Tmp)(a:List dg)(t:Array dg):Array dg:=(ts.zip a).foldl (fun t(p,v)=>t.setIfInBounds p v) t
theorem Kn{w:dq}{ad:Nat->Prop}{β:Bd}{H:an}:∀{ts:List Tmp}{vs:List AV}{xs:List dg}{e:Env}{t:Array dg},(∀x∈ts,x<t.size)->bJ P w ad β H vs xs->ba (aJ H) vs->(∀x,aD P w ad β H (aS e x) (t.getD x undef))->(∀x,aG (aJ H) (aS e x))->
 (rq ts xs t).size=t.size/\(∀x,aD P w ad β H (aS (rG ts vs e) x) ((rq ts xs t).getD x undef))/\(∀x,aG (aJ H) (aS (rG ts vs e) x))
 |[],vs,xs,e,t,_,a,_,b,c=>by
  cases vs<;>exact⟨rfl,b,c⟩
 |p::ts,[],xs,e,t,_,a,_,b,c=>by
  simp only[bJ]at a;subst a;exact⟨rfl,b,c⟩
 |p::ts,v::vs,xs,e,t,f,a,d,b,c=>by
  simp only[bJ]at a;obtain⟨y,h,rfl,k1,k2⟩:=a;simp only[ba]at d;have g:p<t.size:=f p (by simp);obtain⟨g1,g2,g3⟩:=Kn (ts:=ts) (vs:=vs) (xs:=h) (e:=(p,v)::e) (t:=t.setIfInBounds p y) (fun x hx=>by simpa using f x (by simp[hx])) k2 d.2
   (fun x=>by
    simp only[aS]
    by_cases hx:x=p
    ·subst hx;simp[g];exact k1
    ·simp only[hx,if_false,ce,Array.getElem?_setIfInBounds_ne (Ne.symm hx)];simpa using b x)
   (fun x=>by
    simp only[aS]
    split
    ·exact d.1
    ·exact c x)
  exact⟨by simpa[rq]using g1,g2,g3⟩
theorem zip_toArray(a:List Tmp)(b:List dg)(t:Array dg):(a.toArray.zip b.toArray).foldl (fun t(p,v)=>t.setIfInBounds p v) t=rq a b t:=by
 unfold rq;rw[<-cy];simp
theorem YA(I:mc P ag)(G:tE P ag fit){b:Nat}{L:dW}{H H':an}{args:List AV}{v:AV}(f:H[b]?=some (.loop L))(az:args.length=L.params.length)(aA:∀x∈L.params,x<L.n)
 (aq:codeOk fit L.n L.assign=true)(hc:codeOk fit L.n L.body=true)(aI:zo P ag L b args H (fun af aR=>aR=v/\cV H.length ⟨[],af⟩ ⟨[],H'⟩)):ft P b H args H' v:=by
 refine⟨⟨L,f⟩,fun w ad ai β i B W au=>?_⟩;obtain⟨tmps,defers,fn,ao,M,ap,aW⟩:=B.cO b _ f;have s:b<H.length:=(hA.1 f).1;have aw:=(tM W).1;have j:=run_yield (P:=P) (args:=i.toArray) ao (by simp[aw,az]);obtain⟨q1,aN,aO⟩:=Kn (ts:=L.params) (vs:=args) (xs:=i) (e:=L.env) (t:=tmps) (fun x hx=>by rw[M];exact aA x hx) W au ap (B.refs b _ f);rw[zip_toArray]at j;refine⟨fn,_,_,_,j,fun K ae=>?_⟩;obtain⟨c,z⟩:∃c:e6,c={fn:=fn,tmps:=#[],todo:=[],defers:=[],mode:=.run,kind:=.normal,roundOf:=some (β.au b)}:=⟨_,rfl⟩
 have g:c.roundOf=some (β.au b):=by subst z;rfl
 have A:c.kind=.normal:=by subst z;rfl
 have ax:Frame.round (β.au b) fn (rq L.params i tmps) L.assign L.body .normal=bC c (rq L.params i tmps) [] [.code L.assign,.beginRound,.code L.body]:=by subst z;rfl
 have V:rN H.length c β H:=fun l Z=>by
  rw[g]at Z;cases Z;exact⟨b,s,⟨L,f⟩,rfl⟩
 obtain⟨e1,s1,aV,aU,aT,t1,w1,al,g1,g2,g3,g4,g5⟩:=mU (N:=H.length) (fr:=c) (cs:=K::ae) (ds:=[]) I G L.assign [.beginRound,.code L.body] aq aI ⟨B,aN,aO,q1.trans M⟩ V;unfold yz at g1
 split at g1
 case h_2=>exact g1.elim
 rename_i q Q;obtain⟨g1,g6⟩:=g1;obtain⟨bc,m1,_,_,m4,m5⟩:=g5;have aE:=m5 (by rw[g];rfl);subst aE;obtain rfl:al=[]:=m1;have aj:aT.au b=β.au b:=(g4.step.loop b s ⟨_,f,trivial⟩ ⟨q,Q⟩).2;obtain⟨rec,ac,aP,aQ,a7,a8,a9,ba,bb,D⟩:=Da g3.heap Q .busy q.pending;rw[aj]at ac D;have X:=run_beginRound (P:=P) ac (aP.trans g1);have av:({rec with state:=.busy}:Loop)={rec with state:=.busy,pending:=q.pending}:=by rw[<-aQ]
 rw[av]at X;have T:=g4.trans (D.fj (N:=H.length));obtain⟨e2,s2,r,p,m,t2,F,am,k1,k2,k3,k4,k5⟩:=mU (N:=H.length) (fr:=c) (cs:=K::ae) (ds:=[]) I G L.body [] hc g6 (g3.post D) (V.fj T);unfold tG at k1
 split at k1
 case h_2=>exact k1.elim
 rename_i J S;obtain⟨rfl,Y⟩:=k1;obtain⟨bd,aK,_,_,aL,aM⟩:=k5;have aH:=aM (by rw[g];rfl);subst aH;obtain rfl:am=[]:=aK;have aX:∀k,r k->ai k:=fun k hk=>(m4 k ((aL k hk).resolve_right (by simp))).resolve_right (by simp);have U:=T.trans k4;have ak:m.au b=β.au b:=(U.step.loop b s ⟨_,f,trivial⟩ ⟨J,S⟩).2;obtain⟨E,ab,aY,aZ,a0,a3,a4,a5,a6,C⟩:=Da k3.heap S (if(ia e2).isNone then .ready else .done) (ia e2);rw[ak]at ab C;have u:=run_endRound (P:=P) (ia e2) ab;have ar:=U.trans (C.fj (N:=H.length));have d:=ar.trans (Y.fj (β:=m) (ai:=r) (ad:=p) (w:=F.putObj (β.au b) (.loop {E with state:=if(ia e2).isNone then .ready else .done,pending:=ia e2})));refine⟨.bool (ia e2).isNone,F.putObj (β.au b) (.loop {E with state:=if(ia e2).isNone then .ready else .done,pending:=ia e2}),m,p,?_,?_,by simp[aD,aF],by simp[aG]⟩
 ·rw[ax];refine hr (g2:ew P _ _) ((ht (stepR_beginRound (b:=c) (a:=⟨t1,[]⟩) g X)).trans ?_);cases e2 with
  |normal=>exact hr (k2:ew P _ _) (.one (stepR_round_end (b:=c) (a:=⟨t2,[]⟩) g A u))
  |exit id=>
   obtain⟨aJ,a1,a2⟩:=k2;exact hr a2 (.one (stepR_round_exit (b:=c) (a:=⟨t2,[]⟩) g A (by rw[a1];rfl) u))
  |ret=>
   obtain⟨aJ,a2⟩:=k2;exact hr a2 (.one (stepR_round_ret (b:=c) (a:=⟨t2,[]⟩) g A u))
 ·have aB:cQ P 0 r p m ⟨[],s2.heap.set b (.loop {J with st:=if(ia e2).isNone then .ready else .done,pending:=ia e2})⟩ #[] (F.putObj (β.au b) (.loop {E with state:=if(ia e2).isNone then .ready else .done,pending:=ia e2})):=
   ⟨C.rel,fun x=>by simp[aS,aD,aF],fun x=>by simp[aS,aG],rfl⟩
  have aC:=(Y.rel aB).heap;refine⟨d.bS,d.fresh,d.ext,d.step.full,aC.shut d.eh (R:=fun _=>False) (fun _ h=>h.elim) rfl (fun _ _=>rfl),fun x hx=>?_,fun y j=>?_⟩
  ·obtain⟨o,aa,ay⟩:=hx;exact d.fa x (hA.1 aa).1 ⟨o,aa,ay⟩
  ·obtain⟨ah,O⟩:=j;exact d.loop y (hA.1 O).1 ⟨ah,O⟩
end
section
variable{P:dz}
theorem M9{w:dq}{ad:Nat->Prop}{b:Bool}{v:dg}:aF P w ad (.bool b) v↔v=.bool b:=by simp[aF]
theorem DL{w:dq}{ad:Nat->Prop}{k:en}{n:Int}{v:dg}:aF P w ad (.int k n) v↔v=.int k n:=by simp[aF]
theorem Ou{w:dq}{ad:Nat->Prop}{s:List Nat}{v:dg}:aF P w ad (.str s) v↔∃bs:ByteArray,v=.string bs/\s=bs.data.toList.map (·.toNat):=by simp[aF]
theorem eX{s:Sem dg}{w:dq}{a:dg}(h:s.run P w=.ok a w):(do pure (Next.value (<-s)):Sem Next).run P w=.ok (.value a) w:=by simp[h]
theorem vk{s:Sem dg}{w w':dq}{a:dg}(h:s.run P w=.ok a w'):(do pure (Next.value (<-s)):Sem Next).run P w=.ok (.value a) w':=by simp[h]
theorem yl{T:dl}{v:AV}{w:dq}{ad:Nat->Prop}{β:Bd}{H:an}{cs:List dg}(hk:kindOf P T=aa v)(d:br P w ad β H v cs):P.cellsOf T=cs.length/\∃i,P.info? T=some i/\i.size=cs.length:=by
 obtain⟨c,a⟩:=nY d;have b:P.cellsOf T=cs.length:=by
  rw[c,<-hk];unfold kindOf at hk⊢
  split at hk
  ·split at hk<;>rename_i hc
   ·simp at hc;rw[if_pos (by simpa using hc)];simp[bF,hc.2]
   ·exact(a hk.symm).elim
  ·split at hk<;>rename_i hc
   ·simp at hc;rw[if_pos (by simpa using hc)];simp[bF,hc]
   ·exact(a hk.symm).elim
  ·split at hk<;>rename_i hc
   ·simp at hc;rw[if_pos (by simpa using hc)];simp[bF,hc]
   ·exact(a hk.symm).elim
  ·exact(a hk.symm).elim
 refine⟨b,?_⟩;cases hi:P.info? T with
 |none=>
  have:kindOf P T=.bad:=by simp[kindOf,hg,hi]
  rw[this]at hk;exact(a hk.symm).elim
 |some i=>exact⟨i,rfl,by simpa[he,hi]using b⟩
variable{o:Oper}{ρ:dk->AV}{base:Nat}
theorem Sc{x:dk}(a:o.op=.move x\/o.op=.assign x):bA P o ρ base {v:=ρ x}:=by
 refine bA.same fun H w ad ai β c d b _=>?_;refine⟨c x,?_,b x ?_⟩
 ·rcases a with a|a<;>simp[dp,a]
 ·rcases a with a|a<;>simp[a,gy]
theorem aJS{c a b:dk}{t:Bool}(d:o.op=.pick c a b)(hc:ρ c=.p (.bool t)):bA P o ρ base {v:=if t then ρ a else ρ b}:=by
 refine bA.same fun H w ad ai β g h f _=>?_;have e:=(f c (by simp[d,gy])).1;rw[hc]at e;simp only[aD,M9]at e;refine⟨if t then g a else g b,by simp[dp,d,e,asBool],?_⟩;cases t with
 |true=>exact f a (by simp[d,gy])
 |false=>exact f b (by simp[d,gy])
theorem Kr{t:dk}{i:Nat}{vs:List AV}{v:AV}(g:o.op=.extract t i)(e:ρ t=.aE vs\/∃l,ρ t=.p (.aE l)/\vs=l.map .p)(hi:vs[i]?=some v):bA P o ρ base {v}:=by
 refine bA.same fun H w ad ai β j m h _=>?_;obtain⟨d,f⟩:=h t (by simp[g,gy]);obtain⟨c,k1,k2,k3⟩:∃c,bJ P w ad β H vs c/\j t=.tuple c.toArray/\ba (aJ H) vs:=by
  rcases e with e|⟨l,e,rfl⟩
  ·rw[e]at d f;simp only[aD,aG]at d f;obtain⟨c,a,b⟩:=d;exact⟨c,a,b,f⟩
  ·rw[e]at d;simp only[aD,aF]at d;obtain⟨c,a,b⟩:=d;exact⟨c,jI.2 a,b,jg _ _⟩
 obtain⟨g1,g2⟩:=tM k1;have k:i<vs.length:=(hA.1 hi).1;have hx:c[i]?=some (c[i]'(by omega)):=hL (by omega);have g3:=g2 i;rw[hi,hx]at g3;refine⟨c[i]'(by omega),?_,by simpa using g3,dc.1 k3 v (hT hi)⟩;simp only[dp,g,Instr.extract,k2];simp[hx]
theorem aJO{c:e8}{T j:dl}{x y:dk}{k d:en}{a b:Int}{K:PV->Prop}(g:o.op= .binOp c T x y j)(hx:ρ x= .p (.int k a))(t:ρ y= .p (.int d b))(hk:k=d\/c= .shl\/c= .shr)
 (h:qd c k a b K)(aq:List (Nat×Obj)):∃v,K v/\bA P o ρ base {v:=.p v,aq}:=by
 have key:∀v,K v->(∀w:dq,(binOp c T (.int k a) (.int d b)).run P w= .ok (match v with| .int k n=> .int k n| .bool b=> .bool b|_=>undef) w)->(∀w ad,aF P w ad v (match v with| .int k n=> .int k n| .bool b=> .bool b|_=>undef))->
  ∃v,K v/\bA P o ρ base {v:=.p v,aq}:=by
  intro v s r q;refine⟨v,s,bA.same fun H w ad ai β z u i _=>?_⟩;have e:=(i x (by simp[g,gy])).1;have f:=(i y (by simp[g,gy])).1;rw[hx]at e;rw[t]at f;simp only[aD,DL]at e f;refine⟨_,?_,by simp only[aD];exact q w ad,by simp[aG]⟩;simp only[dp,g,e,f];refine eX ?_;have m:(eqGuard c T x y (.int k a) (.int d b)).run P w=.ok () w:=by
   unfold eqGuard
   split<;>simp
  simp[m,r w]
 cases c<;>simp only[qd]at h
 case add|sub|mul|and|or|xor|andNot|eql|neq|lss|leq|gtr|geq=>
  obtain rfl:k=d:=by rcases hk with h|h|h<;>first|exact h|cases h
  exact key _ h (fun w=>by simp[binOp,hb,hd,Op.intCmp]) (fun w ad=>by simp[aF])
 case quo|rem=>
  obtain rfl:k=d:=by rcases hk with h|h|h<;>first|exact h|cases h
  exact key _ h.2 (fun w=>by simp[binOp,Op.intDiv,h.1]) (fun w ad=>by simp[aF])
 case shl|shr=>
  have l:¬b<0:=by omega
  exact key _ h.2 (fun w=>by simp[binOp,Op.shift,l]) (fun w ad=>by simp[aF])
theorem Fl{u:UnOp}{T:dl}{x:dk}{v r:PV}(c:o.op= .unOp u T x)(hx:ρ x= .p v)
 (h:(u=.not/\∃b,v=.bool b/\r=.bool (!b))\/(u=.neg/\∃k n,v=.int k n/\r=.int k (k.wrap (0-n)))\/
  (u=.xor/\∃k n,v=.int k n/\r=.int k (k.wrap (BitVec.ofInt k.bits (if k.signed then -1 else k.max)^^^BitVec.ofInt k.bits n).toNat))):bA P o ρ base {v:=.p r}:=by
 refine bA.same fun H w ad ai β f e d _=>?_;have a:=(d x (by simp[c,gy])).1;rw[hx]at a;simp only[aD]at a;rcases h with⟨rfl,b,rfl,rfl⟩|⟨rfl,k,n,rfl,rfl⟩|⟨rfl,k,n,rfl,rfl⟩
 ·rw[M9]at a;exact⟨_,by simp only[dp,c,a];exact eX (by simp[g9];rfl),by simp[aD,aF],by simp[aG]⟩
 ·rw[DL]at a;exact⟨_,by simp only[dp,c,a];exact eX (by simp[g9,hb];rfl),by simp[aD,aF],by simp[aG]⟩
 ·rw[DL]at a;exact⟨_,by simp only[dp,c,a];exact eX (by simp[g9,hd];rfl),by simp[aD,aF],by simp[aG]⟩
end
section
variable{P:dz}{w:dq}{ad ai:Nat->Prop}{β:Bd}{H:an}
variable{o:Oper}{ρ:dk->AV}{base:Nat}
theorem ma(H:an)(b:Nat)(o':Obj):bf H ([]++newAt b [o'])=H.set b o':=rfl
theorem Xz{x:AV}{T:dl}(hs:aa x≠ .bad)(hx:jA T (aa x)=true)(hrefs:∀(H:an)(w:dq)(ad ai:Nat->Prop)(β:Bd)(d:dk->dg),bX P w ad β H ai->
 (∀y∈o.op.operands,aD P w ad β H (ρ y) (d y)/\aG (aJ H) (ρ y))->∃a,aD P w ad β H x a/\aG (aJ H) x/\
  (dp d o).run P w=.ok (.value (.pointer (some ⟨w.heap.size,0,none⟩))) {w with heap:=w.heap.push (.cells a.cells T)}):
 bA P o ρ base {v:=.ptr base [],aX:=[.box false x]}:=by
 intro H w ad ai β d b m _ j;obtain⟨a,f,e,g⟩:=hrefs H w ad ai β d b m;have c:H[base]?=some .hole:=by simpa using j 0 (by simp)
 have i:=yI f hs;have aO:=yU (β:=β) c (.box false x) w.heap.size 0;have aq:∀y,aJ H y->aJ (H.set base (.box false x)) y:=mr c (fun _ h=>h.elim);have l:=tH (cap:=0) b c (ob:=.cells a.cells T) (o':=.box false x)
  ⟨a.cells,T,by simp[Bd.at],br.mono (fun _ x=>x) (fun k hk=>vy _ _ (b.bS k hk)) aO _ _ e i,by
   simp only[cK,Bd.at,if_true,c9,if_false];exact⟨fun h=>i1 _ (b.bS _ h),fun h=>i1 _ (b.eh _ h)⟩,by simp,hx⟩ (aG.mono aq _ e)
 refine⟨_,_,_,_,ad,g,.inl rfl,l,?_,?_⟩
 ·simp only[aD,bO,bU,ma];exact⟨rfl,_,_,0,rfl,rfl,fun _=>by simp[Bd.at]⟩
 ·simp only[aG,ma];exact⟨.box false x,by simp only;rw[hB (hA.1 c).1],trivial⟩
theorem aJL{T:dl}{x:dk}(a:o.op=.box T x)(hs:aa (ρ x)≠.bad)(hx:jA T (aa (ρ x))=true):bA P o ρ base {v:=.ptr base [],aX:=[.box false (ρ x)]}:=by
 refine Xz (T:=T) hs hx fun H w ad ai β e f d=>?_;obtain⟨b,c⟩:=d x (by simp[a,gy]);refine⟨e x,b,c,?_⟩;simp only[dp,a];simp[Instr.box,newVar,newRow]
theorem B4{w:dq}{ad:Nat->Prop}:∀(n:Nat)(T:dl)(cs:List dg)(t:PV),ud P n T cs=some t->aW P w ad t cs/\kindOf P T=aL t
 |0,_,_,_,h=>by simp[ud]at h
 |n+1,T,cs,t,h=>by
  have go:∀(b:List dl)(l:List Nat)(cs:List dg)(fs:List PV),pK P (ud P n) b l cs=some fs->∃a,bm P w ad l fs a/\a.flatten=cs:=by
   intro b
   induction b with
   |nil=>
    intro l cs fs h;cases l with
    |nil=>
     cases cs with
     |nil=>simp[pK]at h;subst h;exact⟨[],by simp[bm]⟩
     |cons c cs=>simp[pK]at h
    |cons s i=>simp[pK]at h
   |cons T b q=>
    intro l cs fs h;cases l with
    |nil=>simp[pK]at h
    |cons s i=>
     simp only[pK]at h
     split at h
     case isFalse=>simp at h
     rename_i m
     split at h
     case h_2=>simp at h
     rename_i v vs g p
     split at h
     case isFalse=>simp at h
     rename_i r;simp at h;subst h;obtain⟨e,_⟩:=B4 n T _ v g;obtain⟨a,f,j⟩:=q i _ vs p;refine⟨cs.take s::a,by simp only[bm];exact⟨_,_,rfl,e,m,f⟩,?_⟩;simp[j]
  unfold ud at h
  split at h
  ·rename_i hk
   split at h
   case h_2=>simp at h
   rename_i c
   split at h
   ·simp at h
   ·rename_i v o;simp at h;subst h;have g:=JE (P:=P) (w:=w) (ad:=ad) c;have d:aL (ofConst c)=.leaf:=by
     unfold ofConst at o⊢
     split<;>simp_all [aL]
    exact⟨(tL d _).2 ⟨c,rfl,g⟩,by rw[hk,d]⟩
  ·rename_i u hk
   split at h
   case h_2=>simp at h
   rename_i l d
   split at h
   case h_2=>simp at h
   rename_i fs k;simp at h;subst h;obtain⟨a,e,f⟩:=go _ _ _ _ k;refine⟨by simp only[aW];exact⟨l,a,d,e,f.symm⟩,by simp[aL,hk]⟩
  ·simp at h
theorem qO{T:dl}{z:PV}(h:cz P T=some z):∃i a,P.info? T=some i/\i.zero=some a/\(∀(w:dq)(ad:Nat->Prop),aW P w ad z a.cells.toList)/\kindOf P T=aL z:=by
 unfold cz at h;cases hi:P.info? T with
 |none=>simp[hi]at h
 |some i=>
  simp only[hi,j3]at h;cases b:i.zero with
  |none=>simp[b]at h
  |some a=>
   simp only[b]at h
   split at h
   case isFalse=>simp at h
   exact⟨i,a,rfl,b,fun w ad=>(B4 40 T _ z h).1,(B4 (w:=default) (ad:=fun _=>True) 40 T _ z h).2⟩
theorem W5{T:dl}{z:PV}(h:cz P T=some z):∃a,(∀w:dq,(zeroValue T).run P w=.ok a w)/\∀(w:dq)(ad:Nat->Prop),aF P w ad z a:=by
 obtain⟨i,a,d,e,f,g⟩:=qO h;refine⟨a,fun w=>by simp[zeroValue,typeInfo,d,e],fun w ad=>?_⟩;have b:Ap a (aL z)=true:=by
  unfold cz at h;simp only[d,j3,e]at h
  split at h
  ·rename_i j;rw[<-g];exact j
  ·simp at h
 have hc:=f w ad;cases hs:aL z with
 |bad=>exact((pD hc).2 hs).elim
 |leaf=>
  rw[hs]at b;obtain⟨c,k1,k2⟩:=(tL hs _).1 hc;cases a<;>simp[Ap]at b<;>(simp[hz]at k1;subst k1;exact k2)
 |agg u=>
  rw[hs]at b;cases a<;>simp[Ap]at b;have:=(wx hs _).1 hc;simpa[hz]using this
theorem tF{T:dl}{i:ea}{a:dg}(h:P.info? T=some i)(b:i.zero=some a)(w:dq):(zeroValue T).run P w=.ok a w:=by
 simp[zeroValue,typeInfo,h,b]
theorem YO{T:dl}{z:PV}(j:o.op=.alloc T)(m:cz P T=some z)(hx:jA T (aL z)=true):bA P o ρ base {v:=.ptr base [],aX:=[.box false (.p z)]}:=by
 obtain⟨i,b,d,e,f,q⟩:=qO m;intro H w ad ai β n a r _ g;have c:H[base]?=some .hole:=by simpa using g 0 (by simp)
 have l:(dp n o).run P w=.ok (.value (.pointer (some ⟨w.heap.size,0,none⟩))) {w with heap:=w.heap.push (.cells b.cells T)}:=by
  simp only[dp,j];simp[Instr.alloc,tF d e,newVar,newRow]
 have k:=tH (cap:=0) a c (ob:=.cells b.cells T) (o':=.box false (.p z))
  ⟨b.cells,T,by simp[Bd.at],by simp only[br];exact f _ _,by
   simp only[cK,Bd.at,if_true,c9,if_false];exact⟨fun h=>i1 _ (a.bS _ h),fun h=>i1 _ (a.eh _ h)⟩,by simp,by simpa[aa]using hx⟩ (by simp[Obj.refs,aG])
 refine⟨_,_,_,_,ad,l,.inl rfl,k,?_,?_⟩
 ·simp only[aD,bO,bU,ma];exact⟨rfl,_,_,0,rfl,rfl,fun _=>by simp[Bd.at]⟩
 ·simp only[aG,ma];exact⟨.box false (.p z),by simp only;rw[hB (hA.1 c).1],trivial⟩
theorem Ds{T:dl}{a:dk}{v:AV}(h:o.op= .load T a){d:dk->dg}{au off:Nat}{c:List dg}(g:d a= .pointer (some ⟨au,off,none⟩))(hk:kindOf P T=aa v)
 (i:br P w ad β H v c)(hc:gX w au off c):∃b,(dp d o).run P w=.ok (.value b) w/\aD P w ad β H v b:=by
 obtain⟨b,e,f⟩:=Ju hk i hc;refine⟨b,?_,f⟩;simp only[dp,h,Instr.loadAt,g,gi];simp[e]
theorem Aa{aj:Nat}{d:List AV}{g:List (List dg)}(h:Row P w ad β H aj d g){i:Nat}(hi:i<d.length):
 ∃a c post,g.flatten=a++c++post/\a.length=i*aj/\c.length=aj/\br P w ad β H d[i] c/\
  ∀e c',br P w ad β H e c'->c'.length=c.length->∃b,b.flatten=a++c'++post/\Row P w ad β H aj (d.set i e) b:=by
 obtain⟨a,c,post,j,k,o,f,l,m⟩:=tS h (hL hi);have n:c.length=aj:=by
  rw[hM]at f;rw[if_pos hi]at f;simpa using f.symm
 refine⟨a,c,post,j,?_,n,l,?_⟩
 ·rw[k,hF,i3 (by omega),hE]
 ·intro e c' hf hc;obtain⟨b,k1,k2⟩:=m e c' hf hc;exact⟨b,k1,by unfold Row;rw[List.length_set];exact k2⟩
theorem aJQ{T:dl}{a:dk}(g:o.op= .load T a){H0:an}{K:aZ->Prop}(h:oI P T H0 (ρ a) K):
 ∃e,K e/\bA P o ρ base e/\(∀p∈e.aq,H0[p.1]?=some p.2)/\(∀p∈e.aM,p.1<H0.length/\p.2≠.hole):=by
 unfold oI at h
 split at h
 ·rename_i b J m
  split at h
  case h_2=>exact h.elim
  rename_i fz t u
  split at h
  case h_2=>exact h.elim
  rename_i s hs;obtain⟨hk,h⟩:=h;refine⟨_,h,bA.same fun H w ad ai β C j n aq=>?_,by simpa using u,by simp⟩;obtain⟨d,y⟩:=n a (by simp[g,gy]);rw[m]at d;simp only[aD,bO,bU]at d;have f:H[b]?=some (.box fz t):=by simpa using aq
  obtain⟨_,E,I,B,x,r,d⟩:=d;obtain⟨rfl,rfl⟩:=d (.inl ⟨fz,t,f⟩);obtain⟨cs,D,k1,k2,k3,k4⟩:=j.cO b _ f;obtain⟨pre,xs,post,e1,e2,e3,_⟩:=pN k2 hs r;obtain⟨l,g1,g2⟩:=Ds g x hk e3 (by rw[<-e2];exact mg k1 e1);exact⟨l,g1,g2,vK hs (j.refs b _ f)⟩
 ·rename_i b aC aj i J m
  split at h
  case h_2=>exact h.elim
  rename_i k W S q u;obtain⟨rfl,rfl,hi,h⟩:=h
  split at h
  case h_2=>exact h.elim
  rename_i s hs;obtain⟨hk,h⟩:=h;refine⟨_,h,bA.same fun H w ad ai β C j n aq=>?_,by simpa using u,by simp⟩;obtain⟨d,y⟩:=n a (by simp[g,gy]);rw[m]at d;simp only[aD,bO,bU]at d;have f:H[b]?=some (.arr k aC aj q):=by simpa using aq
  have A:¬di k q:=fun G=>by rw[G.2]at hi;simp at hi
  obtain⟨_,E,I,B,x,r,d⟩:=d;obtain⟨rfl,rfl⟩:=d k q f A;rcases j.cO b _ f with hold|⟨cs,D,R,rest,k1,k2,k3,_⟩
  ·exact(A hold).elim
  obtain⟨M,c,L,N,O,U,Q,_⟩:=Aa k2 hi;obtain⟨pre,xs,post,e1,e2,e3,_⟩:=pN Q hs r;have F:gX w (β.au b) (i*aj+B) xs:=by
   have:cs.toList=(M++pre)++xs++(post++L++rest):=by rw[k3,N,e1];simp
   have z:=mg k1 this;rw[hD,O,e2]at z;exact z
  obtain⟨l,g1,g2⟩:=Ds g x hk e3 F;exact⟨l,g1,g2,vK hs (dc.1 (j.refs b _ f) _ (ih hi))⟩
 ·rename_i t m;obtain⟨hk,h⟩:=h;refine⟨_,h,bA.same fun H w ad ai β C j n aq=>?_,by simp,by simp⟩;obtain⟨d,y⟩:=n a (by simp[g,gy]);rw[m]at d;simp only[aD,aF]at d;obtain⟨au,off,V,k1,k2,k3,k4⟩:=d;obtain⟨l,g1,g2⟩:=Ds (β:=β) (H:=H) (v:=.p t) g k4 (by simpa[aa]using hk) (by simpa only[br]using k1) k3;exact⟨l,g1,g2,by simp[aG]⟩
 ·exact h.elim
end
section
variable{P:dz}{w:dq}{ad ai:Nat->Prop}{β:Bd}{H:an}
mutual
theorem Ov:∀{v:PV}{cs:List dg},aW P w ad v cs->∀c∈cs,c.oneCell'=true
 | .undef,_,h| .aE _,_,h=>by simp[aW]at h
 | .bool _,_,h| .int _ _,_,h| .dM,_,h| .aP,_,h| .fk,_,h| .gQ,_,h| .gB,_,h=>by simp only[aW]at h;subst h;simp[hv]
 | .str _,_,h=>by simp only[aW]at h;obtain⟨_,rfl,_⟩:=h;simp[hv]
 | .cq _,_,h=>by simp only[aW]at h;obtain⟨_,_,_,_,_,_,rfl⟩:=h;simp[hv]
 | .cT _ _,_,h=>by simp only[aW]at h;obtain⟨_,_,_,_,_,_,_,_,_,_,_,_,rfl⟩:=h;simp[hv]
 | .seq _,_,h=>by simp only[aW]at h;rcases h with⟨_,rfl⟩|⟨_,_,_,_,_,_,_,_,_,_,_,rfl⟩<;>simp[hv]
 | .eg _,_,h=>by simp only[aW]at h;obtain⟨_,_,_,_,_,_,rfl⟩:=h;simp[hv]
 | .func _ _ _,_,h=>by simp only[aW]at h;obtain⟨_,_,_,_,rfl⟩:=h;simp[hv]
 | .st u fs,_,h=>by
  simp only[aW]at h;obtain⟨l,a,b,d,rfl⟩:=h;exact Nb d
theorem Nb:∀{l:List Nat}{vs:List PV}{a:List (List dg)},bm P w ad l vs a->∀c∈a.flatten,c.oneCell'=true
 |[],[],_,h=>by simp only[bm]at h;subst h;simp
 |[],_::_,_,h=>by simp[bm]at h
 |_::_,[],_,h=>by simp[bm]at h
 |n::f,v::vs,a,h=>by
  simp only[bm]at h;obtain⟨c,cs,rfl,b,d,e⟩:=h;intro x hx;simp only[hP,h2]at hx;exact hx.elim (Ov b x) (Nb e x)
end
mutual
theorem zA:∀{v:AV}{cs:List dg},br P w ad β H v cs->∀c∈cs,c.oneCell'=true
 | .p t,_,h=>by simp only[br]at h;exact Ov h
 | .ptr ..,_,h| .b8 ..,_,h| .sl ..,_,h| .map ..,_,h=>by simp only[br]at h;obtain⟨v,rfl,b,_⟩:=h;simpa using b
 | .func ..,_,h=>by simp only[br]at h;obtain⟨_,_,_,_,rfl⟩:=h;simp[hv]
 | .aE _,_,h=>by simp[br]at h
 | .st u fs,_,h=>by
  simp only[br]at h;obtain⟨l,a,b,d,rfl⟩:=h;exact Nc d
theorem Nc:∀{l:List Nat}{vs:List AV}{a:List (List dg)},bM P w ad β H l vs a->∀c∈a.flatten,c.oneCell'=true
 |[],[],_,h=>by simp only[bM]at h;subst h;simp
 |[],_::_,_,h=>by simp[bM]at h
 |_::_,[],_,h=>by simp[bM]at h
 |n::f,v::vs,a,h=>by
  simp only[bM]at h;obtain⟨c,cs,rfl,b,d,e⟩:=h;intro x hx;simp only[hP,h2]at hx;exact hx.elim (zA b x) (Nc e x)
end
theorem qM(d:bX P w ad β H ai){b:Nat}{o o':Obj}(c:H[b]?=some o)(j:o.live)(l:o'.live)(m:∀v,o.has v->o'.has v){q new:Array dg}{T:dl}
 (i:w.heap[β.au b]?=some (.cells q T (0,0)))(e:¬ad (β.au b)/\¬ai (β.au b))(aO:cC β H β (H.set b o'))
 (n:fo P (w.setRow (β.au b) new) ad β (H.set b o') ai b o')(p:o'.refs (aJ (H.set b o'))):
 b6 P ai ad w β H ad (w.setRow (β.au b) new) β (H.set b o'):=by
 refine b6.set d (hA.1 c).1 (fun _ _=>⟨rfl,rfl⟩) (fun _ x=>x) (fun _ x=>.inl x) (fun k hk=>by rw[eq];exact d.bS k hk) (by rw[eq];exact i0 _)
  (fun k hk _=>eb w _ k _ (hk.resolve_right (fun h=>h l))) (fun _=>.inr ⟨rfl,⟨o,c,j⟩,.inr e.1,e.2⟩) aO n p (fun r v a f=>by rw[c]at a;cases a;exact m v f) (fun L g=>by obtain⟨_,_,_,a,_⟩:=d.cO b _ g;rw[i]at a;cases a)
theorem pE{b:Nat}{o o':Obj}(j:H[b]?=some o)(hk:(∃f g t y,o= .box f t/\o'= .box g y)\/(∃k v z d l,o= .arr k v z d/\o'= .arr k v z l/\d.length=l.length)\/(∃f g d l,o= .map f d/\o'= .map g l)\/(∃s p u,o= .dy s p/\o'= .dy s u)):
 cC β H β (H.set b o'):=by
 have r:b<H.length:=(hA.1 j).1;have i:∀x,x≠b->(H.set b o')[x]?=H[x]?:=fun x hx=>hV (Ne.symm hx);have e:(H.set b o')[b]?=some o':=hB r;refine⟨?_,?_,?_,?_,?_⟩
 ·rintro x _ ⟨fz,t,h⟩;refine⟨?_,rfl⟩
  by_cases hx:x=b
  ·subst hx;rw[e]at h;cases h;rcases hk with⟨f,g,t1,t2,c,a⟩|⟨_,_,_,_,_,_,a,_⟩|⟨_,_,_,_,_,a⟩|⟨_,_,_,_,a⟩
   ·exact⟨f,t1,by rw[j,c]⟩
   all_goals cases a
  ·rw[i x hx]at h;exact⟨fz,t,h⟩
 ·rintro x _ ⟨s,p,h⟩;refine⟨?_,rfl⟩
  by_cases hx:x=b
  ·subst hx;rw[e]at h;cases h;rcases hk with⟨f,g,t1,t2,c,a⟩|⟨_,_,_,_,_,_,a,_⟩|⟨_,_,_,_,_,a⟩|⟨s1,m,w,c,a⟩
   ·cases a
   ·cases a
   ·cases a
   ·exact⟨s1,m,by rw[j,c]⟩
  ·rw[i x hx]at h;exact⟨s,p,h⟩
 ·rintro x _ ⟨fz,t,h⟩;refine⟨?_,rfl⟩
  by_cases hx:x=b
  ·subst hx;rw[e]at h;cases h;rcases hk with⟨f,g,t1,t2,c,a⟩|⟨_,_,_,_,_,_,a,_⟩|⟨f,g,e1,e2,c,a⟩|⟨s1,m,w,c,a⟩
   ·cases a
   ·cases a
   ·exact⟨f,e1,by rw[j,c]⟩
   ·cases a
  ·rw[i x hx]at h;exact⟨fz,t,h⟩
 ·intro x aC aj k d _ h
  by_cases hx:x=b
  ·subst hx;unfold fq at h⊢;rw[e]at h;cases h;rcases hk with⟨f,g,t1,t2,c,a⟩|⟨k0,v,z,n,A,c,a,q⟩|⟨_,_,_,_,_,a⟩|⟨_,_,_,_,a⟩
   ·cases a
   ·cases a;refine⟨k,n,by rw[j,c],by omega,?_,fun _=>⟨rfl,rfl⟩⟩;unfold di;rw[<-hG,<-hG,q]
   ·cases a
   ·cases a
  ·unfold fq at h⊢;rw[i x hx]at h;exact⟨k,d,h,i0 _,Iff.rfl,fun _=>⟨rfl,rfl⟩⟩
 ·rintro x _ ⟨L,h⟩;refine⟨?_,rfl⟩
  by_cases hx:x=b
  ·subst hx;rw[e]at h;cases h;rcases hk with⟨f,g,t1,t2,c,a⟩|⟨_,_,_,_,_,_,a,_⟩|⟨_,_,_,_,_,a⟩|⟨_,_,_,_,a⟩<;>cases a
  ·rw[i x hx]at h;exact⟨L,h⟩
variable{o:Oper}{ρ:dk->AV}{base:Nat}
theorem KB{T:dl}{a x:dk}(p:o.op= .store T a x){e:dk->dg}{au off:Nat}{b:List dg}{d:Array dg}{f:dl}(j:e a= .pointer (some ⟨au,off,none⟩))
 (hx:(e x).cells.toList=b)(q:P.cellsOf T=b.length/\∃i,P.info? T=some i/\i.size=b.length)(k:w.heap[au]?=some (.cells d f (0,0)))(n:∀c∈b,c.oneCell'=true)(m:off+b.length<=d.size):
 (dp e o).run P w=.ok .skip (w.setRow au (d.toList.take off++b++d.toList.drop (off+b.length)).toArray):=by
 obtain⟨_,i,hi,l⟩:=q;have h:(sizeOf T).run P w=.ok b.length w:=by simp[sizeOf,typeInfo,hi,l]
 have g:=em (P:=P) au off f b 0 d w k (by simpa using m) n;simp only[i5]at g;have r:(e x).cells.size=b.length:=by rw[<-hx];simp
 simp only[dp,p,Instr.storeAt,j,gi];simp[storeVar,h,r,hx,g]
theorem CC(u:dl)(fs:List AV):aa (iw u fs)=.agg u:=by
 unfold iw;split<;>rfl
theorem Yd{t:AV}{c:List (dl×Nat)}{x s d:AV}(hs:eU t c=some s)(a:fX t c x=some d)(e:aa s=aa x):aa d=aa t:=by
 cases c with
 |nil=>
  simp only[fX,j5]at a;subst a;have:s=t:=by
   cases t<;>simp[eU]at hs<;>exact hs.symm
  rw[<-e,this]
 |cons p r=>
  obtain⟨u,i⟩:=p;cases t<;>simp only[fX]at a
  case p t=>
   split at a
   case isFalse=>simp at a
   rename_i b
   split at a
   case h_2=>simp at a
   split at a
   case h_2=>simp at a
   simp only[j5]at a;subst a;rw[CC];simp[aa,b]
  case st u' fs=>
   split at a
   case isFalse=>simp at a
   rename_i b
   split at a
   case h_2=>simp at a
   split at a
   case h_2=>simp at a
   simp only[j5]at a;subst a;rw[CC];simp[aa,b]
  all_goals simp at a
theorem Zo{T:dl}{a x:dk}(z:o.op= .store T a x){H0:an}{K:aZ->Prop}(h:om P T H0 (ρ a) (ρ x) K):
 ∃e,K e/\bA P o ρ base e/\(∀p∈e.aq,H0[p.1]?=some p.2)/\(∀p∈e.aM,p.1<H0.length/\p.2≠.hole):=by
 unfold om at h;obtain⟨hk,ab,h⟩:=h
 split at h
 ·rename_i b ap N
  split at h
  case h_2=>exact h.elim
  rename_i t B
  split at h
  case h_2=>exact h.elim
  rename_i s j hs r;obtain⟨J,h⟩:=h;refine⟨_,h,?_,by simpa using B,by simpa using(hA.1 B).1⟩;intro H w ad ai β f l D aq _;have d:H[b]?=some (.box false t):=by simpa using aq
  obtain⟨g,_⟩:=D a (by simp[z,gy]);obtain⟨aa,M⟩:=D x (by simp[z,gy]);rw[N]at g;simp only[aD,bO,bU]at g;obtain⟨_,ak,Z,L,W,U,g⟩:=g;obtain⟨rfl,rfl⟩:=g (.inl ⟨false,t,d⟩);obtain⟨cs,A,k1,k2,k3,k4⟩:=l.cO b _ d;obtain⟨pre,xs,post,e1,e2,e3,e4⟩:=pN k2 hs U;have m:=yI aa ab;have q:(f x).cells.toList.length=xs.length:=by rw[(nY m).1,(nY e3).1,J]
  have ae:cs.size=pre.length+xs.length+post.length:=by
   have:=congrArg hU e1;simp at this;omega
  have C:=KB z W rfl (yl hk m) k1 (zA m) (by omega);have aX:(cs.toList.take Z++(f x).cells.toList++cs.toList.drop (Z+(f x).cells.toList.length))=pre++(f x).cells.toList++post:=by
   rw[e1,q,<-e2];simp
  rw[aX]at C;have aO:cC β H β (H.set b (.box false j)):=pE d (.inl ⟨_,_,_,_,rfl,rfl⟩);have Q:∀y,aJ H y->aJ (H.set b (.box false j)) y:=mr d (fun _ h=>h);have X:∀k,ad k->(w.setRow (β.au b) (pre++(f x).cells.toList++post).toArray).heap[k]?=w.heap[k]?:=fun k S=>eb w _ k _ (fun O=>k3.1 (O▸S));have V:=qM l d trivial (o':=.box false j) trivial (fun _ h=>h) k1 (new:=(pre++(f x).cells.toList++post).toArray) k3 aO
   ⟨_,A,ed w _ _ _ A _ k1,br.mono (fun _ x=>x) X aO _ _ (vL r (l.refs b _ d) M) (e4 _ _ _ r m q),k3,by simp,by rw[Yd hs r J];exact k4.2⟩
   (aG.mono Q _ (vL r (l.refs b _ d) M))
  exact⟨_,_,_,β,ad,C,.inr ⟨rfl,rfl⟩,V,by simp[aD,aF,bL,undef],by simp[aG]⟩
 ·rename_i b aC aj i ap N
  split at h
  case h_2=>exact h.elim
  rename_i k aA ay n B;obtain⟨rfl,rfl,ag,hi,h⟩:=h
  split at h
  case h_2=>exact h.elim
  rename_i s j hs r;obtain⟨J,h⟩:=h;refine⟨_,h,?_,by simpa using B,by simpa using(hA.1 B).1⟩;intro H w ad ai β f l D aq _;have d:H[b]?=some (.arr k aC aj n):=by simpa using aq
  obtain⟨g,_⟩:=D a (by simp[z,gy]);obtain⟨aa,M⟩:=D x (by simp[z,gy]);rw[N]at g;simp only[aD,bO,bU]at g;have I:¬di k n:=fun G=>by rw[G.2]at hi;simp at hi
  obtain⟨_,ak,Z,L,W,U,g⟩:=g;obtain⟨rfl,rfl⟩:=g k n d I;rcases l.cO b _ d with hold|⟨cs,A,ax,rest,k1,k2,k3,k4,k5,k6,k7,k8⟩
  ·exact(I hold).elim
  have af:¬ad (β.au b)/\¬ai (β.au b):=by
   unfold cK at k7;rw[if_neg (by simpa using ag)]at k7;exact k7
  obtain⟨u,c,F,ar,au,az,av,aw⟩:=Aa k2 hi;obtain⟨pre,xs,post,e1,e2,e3,e4⟩:=pN av hs U;have m:=yI aa ab;have q:(f x).cells.toList.length=xs.length:=by rw[(nY m).1,(nY e3).1,J]
  have ac:cs.toList=(u++pre)++xs++(post++F++rest):=by rw[k3,ar,e1];simp
  have ae:cs.size=(u++pre).length+xs.length+(post++F++rest).length:=by
   have:=congrArg hU ac;simp at this⊢;omega
  have ao:(u++pre).length=i*aj+L:=by simp[au,e2]
  have C:=KB z W rfl (yl hk m) k1 (zA m) (by omega);have aX:(cs.toList.take (i*aj+L)++(f x).cells.toList++cs.toList.drop (i*aj+L+(f x).cells.toList.length))=(u++pre)++(f x).cells.toList++(post++F++rest):=by
   rw[ac,q,<-ao,hH (u++pre),List.take_left',List.drop_append,hH]
   ·simp
   ·rfl
  rw[aX]at C;obtain⟨al,c1,c2⟩:=aw j _ (e4 _ _ _ r m q) (by rw[e1];simp[q]);have aO:cC β H β (H.set b (.arr k aC aj (n.set i j))):=pE d (.inr (.inl ⟨_,_,_,_,_,rfl,rfl,by simp⟩));have Q:∀y,aJ H y->aJ (H.set b (.arr k aC aj (n.set i j))) y:=mr d (fun _ h=>h);have am:¬di k (n.set i j):=fun G=>I ⟨G.1,by have:=G.2;rw[List.set_eq_nil_iff]at this;exact this⟩;have ah:ba (aJ H) (n.set i j):=by
   rw[dc];intro v Y;rcases h3 Y with Y|rfl
   ·exact dc.1 (l.refs b _ d) v Y
   ·exact vL r (dc.1 (l.refs b _ d) _ (ih hi)) M
  have X:∀E,ad E->(w.setRow (β.au b) ((u++pre)++(f x).cells.toList++(post++F++rest)).toArray).heap[E]?=w.heap[E]?:=fun E S=>eb w _ E _ (fun O=>af.1 (O▸S));have V:=qM l d I (o':=.arr k aC aj (n.set i j)) am (fun _ h=>h) k1 (new:=((u++pre)++(f x).cells.toList++(post++F++rest)).toArray) af aO
   (.inr ⟨_,A,al,rest,ed w _ _ _ A _ k1,bM.mono (fun _ x=>x) X aO _ _ _ ah c2,by rw[c1];simp,by
    rw[<-k4,ae];simp[q];omega,by simpa using k5,fun R=>by rw[k6 R];simp,k7,(fun R=>(ag R).elim),k8.2⟩)
   (ba.mono Q _ ah)
  exact⟨_,_,_,β,ad,C,.inr ⟨rfl,rfl⟩,V,by simp[aD,aF,bL,undef],by simp[aG]⟩
 ·exact h.elim
end
section
variable{P:dz}{w:dq}{ad ai:Nat->Prop}{β:Bd}{H:an}
theorem BX(P:dz)(T:dl):P.underlying T=(P.info? (P.underlyingId T)).map (fun i:ea=>i.desc):=by
 unfold hg hh;cases hi:P.info? T with
 |none=>simp[hi]
 |some i=>
  obtain⟨d,_,_,_,_,_,_,_,_,_⟩:=i;cases d<;>simp[hi]
theorem Ch{T u:dl}(h:kindOf P T=.agg u):u=P.underlyingId T/\(∃l,dD P u=some l)/\P.cellsOf T=P.cellsOf u:=by
 unfold kindOf at h
 split at h
 ·split at h
  ·rename_i hc;simp at h;subst h;simp at hc;exact⟨rfl,j1.1 hc.1,hc.2⟩
  ·simp at h
 ·split at h
  ·rename_i hc;simp at h;subst h;simp at hc;exact⟨rfl,j1.1 hc.1,hc.2⟩
  ·simp at h
 ·split at h<;>simp at h
 ·simp at h
theorem vo{T u:dl}{n:Nat}(h:fg P T=some (u,n)):∃fs l,P.underlying T=some (.struct fs)/\fs.size=n/\kindOf P T= .agg u/\dD P u=some l/\l.length=n/\
 ∀(i:Nat)(_hi:i<n),∃f,fs[i]?=some f/\f.offset=(l.take i).sum/\l[i]?=some (P.cellsOf f.type)/\0<P.cellsOf f.type/\(jF P u)[i]?=some f.type:=by
 unfold fg at h
 split at h
 case h_2=>simp at h
 rename_i u' fs hk c;simp at h;obtain⟨rfl,rfl⟩:=h;obtain⟨g,⟨l,a⟩,_⟩:=Ch hk;refine⟨fs,l,c,rfl,hk,a,?_⟩;have b:(P.info? u').map (fun i:ea=>i.desc)=some (.struct fs):=by rw[g,<-BX,c]
 unfold dD at a;rw[b]at a;dsimp only at a
 split at a
 case isFalse=>simp at a
 rename_i hc;simp at a;simp only[da,List.all_eq_true,decide_eq_true_eq,beq_iff_eq]at hc;obtain⟨⟨d,j⟩,e⟩:=hc;subst a;refine⟨by simp,fun i hi=>?_⟩;refine⟨fs[i],by simp[hi],?_,by simp[hi],?_,?_⟩
 ·have:=e (fs[i],i) (by rw[List.mem_iff_getElem?];exact⟨i,by simp[hi]⟩);simpa using this
 ·have:=d (P.cellsOf fs[i].type) (by simp;exact⟨fs[i],by simp,rfl⟩);exact this
 ·unfold jF;rw[b];simp[hi]
theorem vB{T u:dl}{n:Nat}(h:ir P T=some (u,n)):∃e,P.underlying T=some (.array n e)/\kindOf P T=.agg u/\dD P u=some (hC n (P.cellsOf e))/\0<P.cellsOf e:=by
 unfold ir at h
 split at h
 case h_2=>simp at h
 rename_i u' g e hk b;simp at h;obtain⟨rfl,rfl⟩:=h;obtain⟨d,⟨l,a⟩,_⟩:=Ch hk;have c:(P.info? u').map (fun i:ea=>i.desc)=some (.array g e):=by rw[d,<-BX,b]
 have f:=a;unfold dD at a;rw[c]at a;dsimp only at a
 split at a
 case isFalse=>simp at a
 rename_i hc;simp at a hc;exact⟨e,b,hk,by rw[f,a],hc.1⟩
theorem ym{p q:List (dl×Nat)}{a b:Nat}(c:gu P p=some a)(f:gu P q=some b):gu P (p++q)=some (a+b):=by
 induction p generalizing a with
 |nil=>simp[gu]at c;subst c;simpa using f
 |cons x p g=>
  obtain⟨u,i⟩:=x;simp only[gu]at c;cases d:dD P u with
  |none=>simp[d]at c
  |some l=>
   cases e:gu P p with
   |none=>simp[d,e]at c
   |some a'=>
    simp[d,e]at c;obtain⟨hi,rfl⟩:=c;simp only[List.cons_append,gu,d,g e,if_pos hi];congr 1;omega
theorem yt{u:dl}{i:Nat}{l:List Nat}(a:dD P u=some l)(hi:i<l.length):gu P [(u,i)]=some (l.take i).sum:=by
 simp[gu,a,hi]
variable{o:Oper}{ρ:dk->AV}{base:Nat}
theorem kM(au off n:Nat):(⟨au,off,none⟩:Addr).add n=⟨au,off+n,none⟩:=by unfold Addr.add;split<;>simp_all
theorem Vb{T:dl}{a:dk}{f:Nat}(v:o.op= .fieldAddr T a f){K:aZ->Prop}(h:nU P T (ρ a) f K):
 ∃e,K e/\bA P o ρ base e/\e.aq=[]/\e.aM=[]:=by
 unfold nU at h
 split at h
 case h_2=>exact h.elim
 rename_i u n aO;obtain⟨hf,h⟩:=h;obtain⟨fs,l,L,x,hk,G,O,E⟩:=vo aO;obtain⟨fd,g1,g2,g3,g4,g5⟩:=E f hf;have z:=yt G (by omega:f<l.length);have B:∀(w:dq)(d:dk->dg)(au off:Nat),d a=.pointer (some ⟨au,off,none⟩)->(dp d o).run P w=.ok (.value (.pointer (some ⟨au,off+(l.take f).sum,none⟩))) w:=by
  intro w d au off m;obtain⟨i,hi⟩:∃i,P.info? fd.type=some i:=by
   cases hi:P.info? fd.type with
   |none=>simp[he,hi]at g4
   |some i=>exact⟨i,rfl⟩
  have J:(sizeOf fd.type).run P w=.ok (P.cellsOf fd.type) w:=by simp[sizeOf,typeInfo,hi,he]
  simp only[dp,v];refine eX ?_;have I:¬P.cellsOf fd.type=0:=by omega
  simp[Instr.fieldAt,db L,g1,m,gi,fieldPlace,J,I,kM,g2]
 split at h
 ·rename_i b N m;refine⟨_,h,bA.same fun H w ad ai β d D r _=>?_,rfl,rfl⟩;obtain⟨c,j⟩:=r a (by simp[v,gy]);rw[m]at c j;simp only[aD,bO,bU,aG]at c j;obtain⟨_,au,off,M,A,y,p⟩:=c;refine⟨_,B w d _ _ A,?_,by simpa[aG]using j⟩;simp only[aD,bO,bU];exact⟨rfl,_,_,_,rfl,ym y z,fun q=>⟨(p q).1,by rw[(p q).2]⟩⟩
 ·rename_i b aC aj i N m;refine⟨_,h,bA.same fun H w ad ai β d D r _=>?_,rfl,rfl⟩;obtain⟨c,j⟩:=r a (by simp[v,gy]);rw[m]at c j;simp only[aD,bO,bU,aG]at c j;obtain⟨_,au,off,M,A,y,p⟩:=c;refine⟨_,B w d _ _ A,?_,by simpa[aG]using j⟩;simp only[aD,bO,bU];exact⟨rfl,_,_,_,rfl,ym y z,fun k C q x=>⟨(p k C q x).1,by rw[(p k C q x).2];omega⟩⟩
 ·rename_i t m;obtain⟨hs,h⟩:=h
  split at h
  case h_2=>exact h.elim
  rename_i g F;refine⟨_,h,?_,rfl,rfl⟩;refine bA.same fun H w ad ai β d D r _=>?_;obtain⟨c,_⟩:=r a (by simp[v,gy]);rw[m]at c;simp only[aD,aF]at c;obtain⟨au,off,Q,k1,k2,k3,k4⟩:=c;refine⟨_,B w d _ _ k4,?_,by simp[aG]⟩;obtain⟨pre,xs,post,e1,e2,e3⟩:=zk (path:=[(u,f)]) (s:=g) k1 (by simp[lC,hs,F]) z;simp only[aD,aF];refine⟨au,off+(l.take f).sum,xs,e3,k2,?_,rfl⟩;intro i hi;have:=k3 (pre.length+i) (by rw[e1];simp;omega);rw[<-e2,i8,this];congr 1;simp only[e1,hH];rw[h4 (by omega)];simp only[i6];rw[h5 hi]
 ·exact h.elim
end
section
variable{P:dz}{w:dq}{ad ai:Nat->Prop}{β:Bd}{H:an}
variable{o:Oper}{ρ:dk->AV}{base:Nat}
theorem tu{au off:Nat}{a pre xs post:List dg}(h:gX w au off a)(e:a=pre++xs++post):gX w au (off+pre.length) xs:=by
 intro i hi;have:=h (pre.length+i) (by rw[e];simp;omega);rw[i8,this];congr 1;simp only[e,hH];rw[h4 (by omega)];simp only[i6];rw[h5 hi]
structure qV(P:dz)(T:dl)(sz:Nat)(e:dl)(i:ea):Prop where
 gF:P.underlying T=some (.slice e)
 info:P.info? e=some i
 size:i.size=sz
 pos:0<sz
 bytes:i.bytes<32768
 aMo:0<i.bytes
 qD:er P T=e
theorem kA{T:dl}{sz:Nat}(h:cH P T=some sz):∃e i,qV P T sz e i:=by
 unfold cH at h
 split at h
 case h_2=>simp at h
 rename_i e a
 split at h
 case h_2=>simp at h
 rename_i i hi
 split at h
 case isFalse=>simp at h
 rename_i hc;simp at h;subst h;exact⟨e,i,a,hi,rfl,hc.2.1,hc.1,hc.2.2,by simp[er,a]⟩
theorem qV.run{T:dl}{sz:Nat}{e:dl}{i:ea}(h:qV P T sz e i)(w:dq):(sizeOf e).run P w=.ok sz w:=by
 simp[sizeOf,typeInfo,h.info,h.size]
theorem Va{T:dl}{x S:dk}(B:o.op= .indexAddr T x S){H0:an}{K:aZ->Prop}(h:nT P T H0 (ρ x) (ρ S) K):
 ∃e,K e/\bA P o ρ base e/\(∀p∈e.aq,H0[p.1]?=some p.2)/\e.aM=[]:=by
 unfold nT at h
 split at h
 case h_2=>exact h.elim
 rename_i ap n ak;obtain⟨C,h⟩:=h;have E:x∈o.op.operands:=by simp[B,gy]
 have al:S∈o.op.operands:=by simp[B,gy]
 have D:∀{H:an}{w:dq}{ad:Nat->Prop}{β:Bd}{z:dk->dg},(∀y∈o.op.operands,aD P w ad β H (ρ y) (z y)/\aG (aJ H) (ρ y))->z S=.int ap n:=by
  intro H w ad β z f;have:=(f S al).1;rw[ak]at this;simpa[aD,aF]using this
 split at h
 ·
  rename_i full d hx;obtain⟨j,r,h⟩:=h;obtain⟨e,ag,A⟩:=kA r;refine⟨_,h,bA.same fun H w ad ai β z O f _=>?_,by simp,rfl⟩;obtain⟨a,_⟩:=f x E;rw[hx]at a;simp only[aD,aF]at a;obtain⟨au,off,cap,aj,V,k1,k2,k3,k4,k5,sp,aa,k6⟩:=a;obtain rfl:sp=none:=aa.resolve_right (by omega);have Z:Row P w ad ⟨id,id⟩ [] aj (d.map .p) V:=mq.2 k1;obtain⟨pre,c,post,ab,ac,ae,U,_⟩:=Aa Z (i:=n.toNat) (by simpa using j);have M:aW P w ad d[n.toNat] c:=by
   have:(d.map AV.p)[n.toNat]'(by simpa using j)=.p d[n.toNat]:=by simp
   rw[this]at U;simpa only[br]using U
  have W:bF P (aL d[n.toNat])=aj:=by rw[<-(pD M).1,ae]
  refine⟨.pointer (some ⟨au,off+n.toNat*aj,none⟩),?_,?_,by simp[aG]⟩
  ·simp only[dp,B];refine eX ?_;have q:n<(d.length:Int):=by omega
   simp[gm,D f,asIntOf,db A.gF,k6,C,q,A.run,W,kM]
  ·simp only[aD,aF];refine⟨au,off+n.toNat*aj,c,M,k2 (by intro F;rw[F]at j;simp at j),?_,rfl⟩;rw[<-ac];exact tu k3 ab
 ·
  rename_i d hx;obtain⟨j,r,h⟩:=h;obtain⟨e,ag,A⟩:=kA r;refine⟨_,h,bA.same fun H w ad ai β z O f _=>?_,by simp,rfl⟩;obtain⟨a,_⟩:=f x E;rw[hx]at a;simp only[aD,aF]at a;rcases a with⟨rfl,_⟩|⟨au,off,cap,aj,V,k1,k2,k3,k5,sp,aa,k6⟩
  ·simp at j
  obtain rfl:sp=none:=aa.resolve_right (by omega);have Z:Row P w ad ⟨id,id⟩ [] aj (d.map .p) V:=mq.2 k1;obtain⟨pre,c,post,ab,ac,ae,U,_⟩:=Aa Z (i:=n.toNat) (by simpa using j);have M:aW P w ad d[n.toNat] c:=by
   have:(d.map AV.p)[n.toNat]'(by simpa using j)=.p d[n.toNat]:=by simp
   rw[this]at U;simpa only[br]using U
  have W:bF P (aL d[n.toNat])=aj:=by rw[<-(pD M).1,ae]
  refine⟨.pointer (some ⟨au,off+n.toNat*aj,none⟩),?_,?_,by simp[aG]⟩
  ·simp only[dp,B];refine eX ?_;have q:n<(d.length:Int):=by omega
   simp[gm,D f,asIntOf,db A.gF,k6,C,q,A.run,W,kM]
  ·simp only[aD,aF];refine⟨au,off+n.toNat*aj,c,M,k2 (by intro F;rw[F]at j;simp at j),?_,rfl⟩;rw[<-ac];exact tu k3 ab
 ·
  rename_i b aC aj off len hx;obtain⟨r,j,h⟩:=h;obtain⟨e,ag,A⟩:=kA r
  split at h
  case h_2=>exact h.elim
  rename_i k aB ax d ao;obtain⟨rfl,rfl,am,h⟩:=h;refine⟨_,h,bA.same fun H w ad ai β z O f aq=>?_,by simpa using ao,rfl⟩;obtain⟨a,l⟩:=f x E;rw[hx]at a l;simp only[aD,bO,bU,aG]at a l;have af:H[b]?=some (.arr k aC aj d):=by simpa using aq
  obtain⟨g1,g2,g3⟩:=a.2 k d af;have g3:=g3 am;refine⟨.pointer (some ⟨β.au b,off*aj+n.toNat*aj,none⟩),?_,?_,by simpa[aG]using l⟩
  ·simp only[dp,B];refine eX ?_;have q:n<(len:Int):=by omega
   simp[gm,D f,asIntOf,db A.gF,g3,C,q,A.run,kM]
  ·simp only[aD,bO,bU];refine⟨rfl,_,_,0,rfl,rfl,fun az aw v ay=>?_⟩;unfold fq at v;rw[af]at v;cases v;exact⟨rfl,by rw[i4];simp⟩
 ·
  rename_i b av hx
  split at h
  case h_2=>exact h.elim
  rename_i u m G;obtain⟨j,h⟩:=h;obtain⟨e,R,hk,I,N⟩:=vB G;refine⟨_,h,bA.same fun H w ad ai β z O f _=>?_,by simp,rfl⟩;obtain⟨a,l⟩:=f x E;rw[hx]at a l;simp only[aD,bO,bU,aG]at a l;obtain⟨_,au,off,ar,Y,X,v⟩:=a;have L:=yt I (i:=n.toNat) (by simpa using j);have Q:((hC m (P.cellsOf e)).take n.toNat).sum=n.toNat*P.cellsOf e:=by rw[hF,i3 (by omega),hE]
  have r:(sizeOf e).run P w=.ok (P.cellsOf e) w:=by
   cases hi:P.info? e with
   |none=>simp[he,hi]at N
   |some i=>simp[sizeOf,typeInfo,hi,he]
  refine⟨.pointer (some ⟨au,off+n.toNat*P.cellsOf e,none⟩),?_,?_,by simpa[aG]using l⟩
  ·simp only[dp,B];refine eX ?_;have q:n<(m:Int):=by omega
   simp[gm,D f,asIntOf,db R,Y,gi,C,q,r,kM]
  ·simp only[aD,bO,bU];exact⟨rfl,_,_,_,rfl,ym X L,fun J=>⟨(v J).1,by rw[(v J).2,Q]⟩⟩
 ·rename_i b aC aj i av hx
  split at h
  case h_2=>exact h.elim
  rename_i u m G;obtain⟨j,h⟩:=h;obtain⟨e,R,hk,I,N⟩:=vB G;refine⟨_,h,bA.same fun H w ad ai β z O f _=>?_,by simp,rfl⟩;obtain⟨a,l⟩:=f x E;rw[hx]at a l;simp only[aD,bO,bU,aG]at a l;obtain⟨_,au,off,ar,Y,X,v⟩:=a;have L:=yt I (i:=n.toNat) (by simpa using j);have Q:((hC m (P.cellsOf e)).take n.toNat).sum=n.toNat*P.cellsOf e:=by rw[hF,i3 (by omega),hE]
  have r:(sizeOf e).run P w=.ok (P.cellsOf e) w:=by
   cases hi:P.info? e with
   |none=>simp[he,hi]at N
   |some i=>simp[sizeOf,typeInfo,hi,he]
  refine⟨.pointer (some ⟨au,off+n.toNat*P.cellsOf e,none⟩),?_,?_,by simpa[aG]using l⟩
  ·simp only[dp,B];refine eX ?_;have q:n<(m:Int):=by omega
   simp[gm,D f,asIntOf,db R,Y,gi,C,q,r,kM]
  ·simp only[aD,bO,bU];exact⟨rfl,_,_,_,rfl,ym X L,fun k d J F=>⟨(v k d J F).1,by rw[(v k d J F).2,Q];omega⟩⟩
 ·rename_i t hx
  split at h
  case h_2=>exact h.elim
  rename_i u m G;obtain⟨hs,j,h⟩:=h
  split at h
  case h_2=>exact h.elim
  rename_i g ah;obtain⟨e,R,hk,I,N⟩:=vB G;refine⟨_,h,bA.same fun H w ad ai β z O f _=>?_,by simp,rfl⟩;obtain⟨a,_⟩:=f x E;rw[hx]at a;simp only[aD,aF]at a;obtain⟨au,off,aA,k1,k2,k3,k4⟩:=a;have L:=yt I (i:=n.toNat) (by simpa using j);have Q:((hC m (P.cellsOf e)).take n.toNat).sum=n.toNat*P.cellsOf e:=by rw[hF,i3 (by omega),hE]
  have r:(sizeOf e).run P w=.ok (P.cellsOf e) w:=by
   cases hi:P.info? e with
   |none=>simp[he,hi]at N
   |some i=>simp[sizeOf,typeInfo,hi,he]
  obtain⟨pre,xs,post,e1,e2,e3⟩:=zk (path:=[(u,n.toNat)]) (s:=g) k1 (by simp[lC,hs,ah]) L;refine⟨.pointer (some ⟨au,off+n.toNat*P.cellsOf e,none⟩),?_,?_,by simp[aG]⟩
  ·simp only[dp,B];refine eX ?_;have q:n<(m:Int):=by omega
   simp[gm,D f,asIntOf,db R,k4,gi,C,q,r,kM]
  ·simp only[aD,aF];refine⟨au,_,xs,e3,k2,?_,rfl⟩;rw[<-Q,<-e2];exact tu k3 e1
 ·exact h.elim
theorem aKV{bs:ByteArray}{s:List Nat}(h:s=bs.data.toList.map (·.toNat)){i:Nat}(hi:i<s.length):∃b:UInt8,bs[i]?=some b/\b.toNat=s[i]:=by
 subst h;have a:i<bs.size:=by simpa using hi
 refine⟨bs[i],by simp[a],?_⟩;simp only[List.getElem_map,ck];rfl
theorem V7{T:dl}{x f:dk}{s:List Nat}{k:en}{n:Int}(e:o.op= .index T x f)(hx:ρ x= .p (.str s))(hi:ρ f= .p (.int k n))(d:iN P T=true)(i:0<=n)(g:n.toNat<s.length):
 bA P o ρ base {v:=.p (.int .u8 (s[n.toNat]'g))}:=by
 refine bA.same fun H w ad ai β m l h _=>?_;have a:=(h x (by simp[e,gy])).1;have c:=(h f (by simp[e,gy])).1;rw[hx]at a;rw[hi]at c;simp only[aD,aF]at a c;obtain⟨bs,e1,e2⟩:=a;obtain⟨b,g1,g2⟩:=aKV e2 g;have j:P.underlying T=some .string:=by
  unfold iN at d
  split at d
  ·assumption
  ·simp at d
 refine⟨.int .u8 b.toNat,?_,by simp[aD,aF,g2],by simp[aG]⟩;simp only[dp,e,e1,c];refine eX ?_;simp[Instr.index,asIntOf,db j,i,g1]
theorem Wt{S D:dl}{x:dk}{k k0:en}{n:Int}(b:o.op= .convert S D x)(e:∃d,P.underlying S=some d)(c:P.underlying D=some (.int k))(hx:ρ x= .p (.int k0 n)):
 bA P o ρ base {v:=.p (.int k (k.wrap n))}:=by
 refine bA.same fun H w ad ai β i h g _=>?_;have a:=(g x (by simp[b,gy])).1;rw[hx]at a;simp only[aD,aF]at a;obtain⟨d,f⟩:=e;refine⟨.int k (k.wrap n),?_,by simp[aD,aF],by simp[aG]⟩;simp only[dp,b,a];refine eX ?_;simp[convert,db f,db c,Conv.intToInt]
theorem Ws{S D:dl}{x:dk}{s:List Nat}(b:o.op= .convert S D x)(e:∃d,P.underlying S=some d)(c:P.underlying D=some .string)(hx:ρ x= .p (.str s)):
 bA P o ρ base {v:=.p (.str s)}:=by
 refine bA.same fun H w ad ai β i h g _=>?_;have a:=(g x (by simp[b,gy])).1;rw[hx]at a;simp only[aD,aF]at a;obtain⟨bs,e1,e2⟩:=a;obtain⟨d,f⟩:=e;refine⟨.string bs,?_,by simp only[aD,aF];exact⟨bs,rfl,e2⟩,by simp[aG]⟩;simp only[dp,b,e1];refine eX ?_;simp only[convert,hm,db f,db c,hl];cases d<;>simp
theorem Xi{b aC aj off len:Nat}{k:AK}{d:List AV}{v:dg}(h:aD P w ad β H (.sl b aC aj off len) v)(j:H[b]?=some (.arr k aC aj d)):∃a c,v=.slice a len c:=by
 simp only[aD,bO,bU]at h;obtain⟨f,g,i⟩:=h.2 k d j
 by_cases e:di k d
 ·rw[g e];have:len=0:=by rw[e.2]at f;simp at f;omega
  subst this;exact⟨_,_,rfl⟩
 ·exact⟨_,_,i e⟩
theorem Cp:∀{b:List (PV×PV)}{a:List MapEntry},cL P w ad b a->a.length=b.length
 |[],a,h=>by simp only[cL]at h;subst h;rfl
 |(k,v)::r,a,h=>by
  simp only[cL]at h;obtain⟨e,rest,rfl,d,f,c⟩:=h;simp[Cp c]
theorem aJP{c:Call}{x:dk}{n:Nat}{aq:List (Nat×Obj)}{H0:an}(G:o.op= .call c)(hc:c.callee= .builtin .len)(E:c.args.toList=[x])(i:lenOf H0 (ρ x)=some (n,aq))(d:ig P (c.argTypes.getD 0 0) (ρ x)=true)(O:0<c.argTypes.size):
 bA P o ρ base {v:=.p (.int .i64 n),aq}/\(∀p∈aq,H0[p.1]?=some p.2):=by
 have u:x∈o.op.operands:=by
  rw[G];simp only[gy,Call.operands,hc];simp;rw[<-Array.mem_toList_iff,E];simp
 have J:c.args=#[x]:=by apply b4;simpa using E
 have q:c.argTypes[0]?=some (c.argTypes.getD 0 0):=by simp[Array.getD,O]
 have t:∀{H:an}{w:dq}{ad:Nat->Prop}{β:Bd}{m:dk->dg},((fl c.argTypes o.type #[m x]).run P w= .ok (goInt n) w)->
  ∃D,(dp m o).run P w=.ok (.value D) w/\aD P w ad β H (.p (.int .i64 n)) D/\aG (aJ H) (.p (.int .i64 n)):=by
  intro H w ad β m L;refine⟨goInt n,?_,by simp[aD,aF,goInt],by simp[aG]⟩;simp only[dp,G,resolve,hc,J];simp[invoke,builtin,L]
 have N:∀T:dl,iN P T=true->P.underlying T=some .string:=by
  intro T h;unfold iN at h
  split at h
  ·assumption
  ·simp at h
 generalize R:c.argTypes.getD 0 0=T at*;unfold lenOf at i
 split at i
 ·rename_i s hx;simp at i;obtain⟨rfl,rfl⟩:=i;rw[hx]at d;simp only[ig]at d;refine⟨bA.same fun H w ad ai β m y j _=>t ?_,by simp⟩;have g:=(j x u).1;rw[hx]at g;simp only[aD,aF]at g;obtain⟨bs,e1,e2⟩:=g;have hs:s.length=bs.size:=by rw[e2];simp
  simp[fl,q,db (N _ d),e1,hs]
 ·rename_i hx;simp at i;obtain⟨rfl,rfl⟩:=i;rw[hx]at d;refine⟨bA.same fun H w ad ai β m y j _=>t ?_,by simp⟩;have g:=(j x u).1;rw[hx]at g;simp only[aD,aF]at g;simp only[ig]at d
  split at d
  ·rename_i e l;simp[fl,q,db l,g]
  ·simp at d
 ·rename_i hx;simp at i;obtain⟨rfl,rfl⟩:=i;rw[hx]at d;refine⟨bA.same fun H w ad ai β m y j _=>t ?_,by simp⟩;have g:=(j x u).1;rw[hx]at g;simp only[aD,aF]at g;simp only[ig]at d
  split at d
  ·rename_i k e l;simp[fl,q,db l,g]
  ·simp at d
 ·rename_i f z hx;simp at i;obtain⟨rfl,rfl⟩:=i;rw[hx]at d;refine⟨bA.same fun H w ad ai β m y j _=>t ?_,by simp⟩;have g:=(j x u).1;rw[hx]at g;simp only[aD,aF]at g;obtain⟨au,off,cap,aj,I,k1,k2,k3,k4,k5,sp,M,k6⟩:=g;simp only[ig]at d
  split at d
  ·rename_i e l;simp[fl,q,db l,k6]
  ·simp at d
 ·rename_i z hx;simp at i;obtain⟨rfl,rfl⟩:=i;rw[hx]at d;refine⟨bA.same fun H w ad ai β m y j _=>t ?_,by simp⟩;have g:=(j x u).1;rw[hx]at g;simp only[aD,aF]at g;simp only[ig]at d
  split at d
  ·rename_i e l;rcases g with⟨rfl,k6⟩|⟨au,off,cap,aj,I,k1,k2,k3,k5,sp,M,k6⟩
   ·simp[fl,q,db l,k6]
   ·simp[fl,q,db l,k6]
  ·simp at d
 ·rename_i z hx;simp at i;obtain⟨rfl,rfl⟩:=i;rw[hx]at d;refine⟨bA.same fun H w ad ai β m y j _=>t ?_,by simp⟩;have g:=(j x u).1;rw[hx]at g;simp only[aD,aF]at g;obtain⟨r,A,clock,k1,k2,k3,k4⟩:=g;simp only[ig]at d
  split at d
  ·rename_i k e l;have:=Cp k3;have B:(getObj r).run P w=.ok (.map A clock) w:=by simp[getObj,hp,k2]
   simp at this;simp[fl,q,db l,k4,B,this]
  ·simp at d
 ·rename_i b aC aj off len hx
  split at i
  case h_2=>simp at i
  rename_i k S Q z C
  split at i
  case isFalse=>simp at i
  rename_i K;obtain⟨rfl,rfl⟩:=K;simp at i;obtain⟨rfl,rfl⟩:=i;rw[hx]at d;refine⟨bA.same fun H w ad ai β m y j aq=>t ?_,by simpa using C⟩;have g:=(j x u).1;rw[hx]at g;obtain⟨a,cp,e1⟩:=Xi g (by simpa using aq);simp only[ig]at d
  split at d
  ·rename_i e l;simp[fl,q,db l,e1]
  ·simp at d
 ·rename_i b hx
  split at i
  case h_2=>simp at i
  rename_i fz z C;simp at i;obtain⟨rfl,rfl⟩:=i;rw[hx]at d;refine⟨bA.same fun H w ad ai β m y j aq=>t ?_,by simpa using C⟩;have g:=(j x u).1;rw[hx]at g;simp only[aD,bO,bU]at g;have F:H[b]?=some (.map fz z):=by simpa using aq
  obtain⟨A,clock,k2,k3,_⟩:=y.cO b _ F;have e1:=g.2.1 ⟨fz,z,F⟩;simp only[ig]at d
  split at d
  ·rename_i k e l;have:=Cp k3;have B:(getObj (β.au b)).run P w=.ok (.map A clock) w:=by simp[getObj,hp,k2]
   simp at this;simp[fl,q,db l,e1,B,this]
  ·simp at d
 ·simp at i
end
section
variable{P:dz}{w:dq}{ad ai:Nat->Prop}{β:Bd}{H:an}
variable{o:Oper}{ρ:dk->AV}{base:Nat}
theorem Mq:∀(a:List dg)(off j:Nat)(cells:Array dg),off+j+a.length<=cells.size->
 ((a.zipIdx j).foldl (fun cs(p:dg×Nat)=>cs.setIfInBounds (off+p.2) p.1) cells).toList=cells.toList.take (off+j)++a++cells.toList.drop (off+j+a.length)
 |[],off,j,cells,_=>by simp
 |x::a,off,j,cells,h=>by
  simp only[List.zipIdx_cons,List.foldl_cons];rw[Mq a off (j+1) _ (by simp at h⊢;omega)];simp only[Array.toList_setIfInBounds,List.length_cons];have d:off+j<cells.toList.length:=by simp at h⊢;omega
  rw[show off+(j+1)=off+j+1 by omega];have b:(cells.toList.set (off+j) x).take (off+j+1)=cells.toList.take (off+j)++[x]:=by
   rw[List.take_succ_eq_append_getElem (by simpa using d)];rw[List.take_set_of_le (i0 _)];simp
  have c:(cells.toList.set (off+j) x).drop (off+j+1+a.length)=cells.toList.drop (off+j+(a.length+1)):=by
   rw[List.drop_set_of_lt (by omega)];congr 1;omega
  rw[b,c];simp
theorem Vr{a c post b:List dg}(h:b.length=c.length):((a++c++post).take a.length++b++(a++c++post).drop (a.length+b.length))=a++b++post:=by
 rw[h];simp
theorem Cm{l:List Nat}{place:Nat->Option (Nat×Nat)}(s:∀i n,l[i]?=some n->place i=some ((l.take i).sum,n)):
 ∀{f:List (Nat×AV)}{j:List (Nat×dg)}{fs:List AV}{e:List (List dg)}{cells:Array dg},j.map j8=f.map j8->(∀i:Nat,aD P w ad β H (((f[i]?).map j7).getD (.p .undef)) (((j[i]?).map j7).getD undef))->
  mj P l f->bM P w ad β H l fs e->cells.toList=e.flatten->
  ∃g m,gw place cells j=some g/\bM P w ad β H l (iL fs f) m/\g.toList=m.flatten
 |[],[],fs,e,cells,_,_,_,h,hc=>⟨cells,e,rfl,h,hc⟩
 |[],_::_,_,_,_,b,_,_,_,_=>by simp at b
 |_::_,[],_,_,_,b,_,_,_,_=>by simp at b
 |(i,a)::f,(d,v)::j,fs,e,cells,b,t,o,h,hc=>by
  simp only[hR,List.cons.injEq]at b;obtain⟨rfl,b⟩:=b;simp only[mj]at o;obtain⟨⟨n,q,hs,B⟩,o⟩:=o;have G:aD P w ad β H a v:=by simpa using t 0
  have y:=fun k=>t (k+1);simp only[h7]at y;have L:=yo h;have K:d<l.length:=(hA.1 q).1;have C:d<fs.length:=by omega
  obtain⟨pre,c,post,e1,e2,e3,e4,e5,A⟩:=tS h (hL C);have J:c.length=n:=by rw[q]at e4;simpa using e4.symm
  have u:=yI G B;have x:v.cells.toList.length=n:=by rw[(nY u).1,hs]
  obtain⟨m,k1,k2⟩:=A a _ u (by omega);have F:cells.size=pre.length+c.length+post.length:=by
   have:=congrArg hU (hc.trans e1);simp at this;omega
  have I:v.cells.size=n:=by simpa using x
  obtain⟨oC,r⟩:∃oC,(v.cells.zipIdx.foldl (fun cs(p:dg×Nat)=>cs.setIfInBounds ((l.take d).sum+p.2) p.1) cells)=oC:=⟨_,rfl⟩
  have D:oC.toList=m.flatten:=by
   rw[<-r,k1];have:=Mq v.cells.toList (l.take d).sum 0 cells (by rw[<-e2];simp at x⊢;omega);rw[<-cy];simp only[Array.toList_zipIdx];rw[this,hc,e1,i5,<-e2];exact Vr (by omega)
  obtain⟨g,z,g1,g2,g3⟩:=Cm s b y o k2 D;refine⟨g,z,?_,by simpa only[iL]using g2,g3⟩;have E:¬(v.cells.size≠n\/(l.take d).sum+v.cells.size>cells.size):=by
   rw[I,F,<-e2];omega
  simp only[gw,s d n q];simp only[Bool.or_eq_true,decide_eq_true_eq,E,if_false];simp only[<-r]at g1;exact g1
end
section
variable{P:dz}{w:dq}{ad ai:Nat->Prop}{β:Bd}{H:an}
variable{o:Oper}{ρ:dk->AV}{base:Nat}
theorem Jk{α γ:Type}(f:α->Sem γ)(g:α->γ)(w:dq):∀l:List α,(∀a∈l,(f a).run P w=.ok (g a) w)->(l.mapM f).run P w=.ok (l.map g) w
 |[],_=>by simp
 |a::l,h=>by
  simp only[ip,hm,h a (by simp),hl,Jk f g w l (fun b c=>h b (by simp[c])),hR];rfl
theorem UY{α γ:Type}(f:α->Sem γ)(g:α->γ)(w:dq)(a:Array α)(h:∀x∈a.toList,(f x).run P w=.ok (g x) w):(a.mapM f).run P w=.ok (a.toList.map g).toArray w:=by
 rw[ch,ho,Jk f g w _ h];rfl
theorem Lf{ρc:dk->dg}{parts:Array (Nat×dk)}(h:∀p∈parts.toList,aD P w ad β H (ρ p.2) (ρc p.2)):
 ((parts.map fun(i,x)=>(i,ρc x)).toList).map j8=(parts.toList.map fun(i,x)=>(i,ρ x)).map j8/\
 ∀i:Nat,aD P w ad β H ((((parts.toList.map fun(i,x)=>(i,ρ x))[i]?).map j7).getD (.p .undef)) ((((parts.map fun(i,x)=>(i,ρc x)).toList[i]?).map j7).getD undef):=by
 refine⟨by simp[Function.comp_def],fun i=>?_⟩;simp only[c6,h9];cases a:parts.toList[i]? with
 |none=>simp[aD,aF]
 |some p=>simpa using h p (hT a)
theorem CM{S:Nat×Nat->Prop}:∀{b:List (Nat×AV)}{fs:List AV},ba S fs->(∀p∈b,aG S p.2)->ba S (iL fs b)
 |[],fs,h,_=>h
 |(i,v)::r,fs,h,a=>by
  simp only[iL];refine CM ?_ (fun p c=>a p (by simp[c]));rw[dc]at h⊢;intro x hx;rcases h3 hx with hx|rfl
  ·exact h x hx
  ·exact a (i,x) (by simp)
theorem Lg{c:Array (Nat×dk)}{p:Nat×dk}(a:p∈c.toList):p.2∈((c.toList.map (·.2)).toArray:Array dk):=by
 simp;exact⟨p.1,by simpa using a⟩
theorem YN{T u:dl}{z:PV}{l:List Nat}{c:Array (Nat×dk)}(y:o.op= .build T c)(hk:kindOf P T= .agg u)(U:cz P T=some z)(s:dD P u=some l)(hs:aL z= .agg u)
 (O:mj P l (c.toList.map fun(i,x)=>(i,ρ x))):bA P o ρ base {v:=iw u (iL ((bY z).map .p) (c.toList.map fun(i,x)=>(i,ρ x)))}:=by
 obtain⟨i,ac,z1,z2,z3,z4⟩:=qO U;refine bA.same fun H w ad ai β m ah V _=>?_;have G:∀p∈c.toList,aD P w ad β H (ρ p.2) (m p.2)/\aG (aJ H) (ρ p.2):=fun p g=>V p.2 (by rw[y];exact Lg g);obtain⟨X,Y⟩:=Lf (ρ:=ρ) (ρc:=m) (parts:=c) (fun p g=>(G p g).1);have I:=z3 w ad;obtain⟨fs,rfl⟩:∃fs,z=.st u fs:=by cases z<;>simp[aL]at hs;subst hs;exact⟨_,rfl⟩
 simp only[aW]at I;obtain⟨W,ae,q1,Z,aa⟩:=I;rw[s]at q1;cases q1
 have E:∀A:Nat->Option (Nat×Nat),(∀i n,l[i]?=some n->A i=some ((l.take i).sum,n))->
  (∀cells,gw A ac.cells (c.map fun(i,x)=>(i,m x)).toList=some cells->(dp m o).run P w=.ok (.value (.agg cells)) w)->
  ∃C,(dp m o).run P w=.ok (.value C) w/\aD P w ad β H (iw u (iL ((bY (.st u fs)).map .p) (c.toList.map fun(i,x)=>(i,ρ x)))) C/\
   aG (aJ H) (iw u (iL ((bY (.st u fs)).map .p) (c.toList.map fun(i,x)=>(i,ρ x)))):=by
  intro A Q S;obtain⟨L,M,g1,g2,g3⟩:=Cm Q X Y O (nX.2 Z) aa;refine⟨.agg L,S _ g1,?_,B0 (CM (jg _ _) ?_)⟩
  ·rw[Zx];simp only[aD];exact⟨l,M,s,g2,by rw[<-g3]⟩
  ·intro p g;simp only[iz]at g;obtain⟨q,hq,rfl⟩:=g;exact(G q hq).2
 have k:=hk;unfold kindOf at k
 split at k
 ·rename_i a d;have aO:fg P T=some (u,a.size):=by unfold fg;rw[hk,d]
  obtain⟨af,W,s1,s2,B,t,ab,J⟩:=vo aO;rw[d]at s1;cases s1;rw[s]at t;cases t;have R:(a.mapM fun f=>(do pure (f.offset,<-sizeOf f.type):Sem (Nat×Nat))).run P w=.ok (a.toList.map fun f:e7=>(f.offset,P.cellsOf f.type)).toArray w:=by
   refine UY _ _ w _ (fun f hf=>?_);obtain⟨j,r,rfl⟩:=List.mem_iff_getElem.1 hf;obtain⟨D,g1,g2,g3,g4,g5⟩:=J j (by simpa using r);have:a[j]'(by simpa using r)=D:=by
    have F:a[j]?=some (a[j]'(by simpa using r)):=Array.getElem?_eq_getElem (by simpa using r);rw[g1]at F;exact(j6 F).symm
   simp only[ck,this];simp[K g4]
  refine E (fun i=>(a.toList.map fun f:e7=>(f.offset,P.cellsOf f.type)).toArray[i]?) ?_ (fun cells hc=>?_)
  ·intro i n b;have hi:i<a.size:=by rw[<-ab];exact(hA.1 b).1
   obtain⟨D,g1,g2,g3,g4,g5⟩:=J i hi;rw[b]at g3;simp only[List.getElem?_toArray,h9,b5,g1];simp[g2,j6 g3]
  ·simp only[dp,y];refine eX ?_;simp only[gx,hm,tF z1 z2,hl,db d,R,hc,hn]
 ·rename_i n e d;have N:ir P T=some (u,n):=by unfold ir;rw[hk,d]
  obtain⟨e',s1,s2,B,t⟩:=vB N;rw[d]at s1;cases s1;rw[s]at B;cases B;refine E (fun i=>some (i*P.cellsOf e,P.cellsOf e)) ?_ (fun cells hc=>?_)
  ·intro i aj b;rw[hM]at b
   split at b
   ·rename_i ag;simp at b;subst b;rw[hF,i3 (by omega),hE]
   ·simp at b
  ·simp only[dp,y];refine eX ?_;simp only[gx,hm,tF z1 z2,hl,db d,K t,hc,hn]
 ·split at k<;>simp at k
 ·simp at k
where
 K {P:dz} {w:dq} {T:dl} (h:0<P.cellsOf T):(sizeOf T).run P w=.ok (P.cellsOf T) w:=by
  cases hi:P.info? T with
  |none=>simp[he,hi]at h
  |some i=>simp[sizeOf,typeInfo,hi,he]
theorem B7(a:Array dg)(n:Nat)(_h:0<a.size):((cc (n*a.size)).map (a[·% a.size]!)).toList=(hC n a.toList).flatten:=by
 simp only[c6,Array.toList_range]
 induction n with
 |zero=>simp
 |succ n c=>
  rw[Nat.succ_mul,List.range_add,List.map_append,c,List.replicate_succ',hZ];congr 1;simp only[List.map_map,hP,ii,hO];refine List.ext_getElem (by simp) (fun i b d=>?_);simp at b;simp[Nat.mul_add_mod_self_right,Nat.mod_eq_of_lt b,b,getElem!_pos]
theorem yn{z:PV}{a:List dg}(h:aW P w ad z a):∀n:Nat,Row P w ad β H a.length (hC n (.p z)) (hC n a)
 |0=>iF.2 rfl
 |n+1=>by
  rw[h8,h8,qX];exact⟨a,_,rfl,by simpa only[br]using h,rfl,yn h n⟩
theorem Cd(d:bX P w ad β H ai){b:Nat}(c:H[b]?=some .hole){cells:Array dg}{T:dl}{k:AK}{aj cap:Nat}{a:List AV}{e:List (List dg)}{rest:List dg}(g:k≠ .frozen)(n:¬di k a)
 (o:Row P w ad β H aj a e)(i:ba (aJ H) a)(hc:cells.toList=e.flatten++rest)(p:cells.size=cap*aj)(m:a.length<=cap)(l:k=.exact->cap=a.length)(q:k=.bytes->T=Gl.u8):
 b6 P ai ad w β H ad {w with heap:=w.heap.push (.cells cells T)} (β.at b w.heap.size cap) (H.set b (.arr k 0 aj a))/\
 aD P {w with heap:=w.heap.push (.cells cells T)} ad (β.at b w.heap.size cap) (H.set b (.arr k 0 aj a)) (.sl b 0 aj 0 a.length) (.slice (some ⟨w.heap.size,0,none⟩) a.length cap):=by
 have aO:=yU (β:=β) c (.arr k 0 aj a) w.heap.size cap;have aq:∀y,aJ H y->aJ (H.set b (.arr k 0 aj a)) y:=mr c (fun _ h=>h.elim);have j:=(hA.1 c).1;refine⟨tH (cap:=cap) d c (ob:=.cells cells T)
  (.inr ⟨cells,T,e,rest,by simp[Bd.at],bM.mono (fun _ x=>x) (fun k hk=>vy _ _ (d.bS k hk)) aO _ _ _ i o,hc,by simp[Bd.at,p],by simpa[Bd.at]using m,by simpa[Bd.at]using l,by
   unfold cK;rw[if_neg (by simpa using g)];simp only[Bd.at,if_true];exact⟨fun h=>i1 _ (d.bS _ h),fun h=>i1 _ (d.eh _ h)⟩,(fun h=>(g h).elim),q⟩) (ba.mono aq _ i),?_⟩
 simp only[aD,bO,bU];refine⟨rfl,fun s r f=>?_⟩;unfold fq at f;rw[hB j]at f;cases f;exact⟨by omega,fun h=>(n h).elim,fun _=>by simp[Bd.at]⟩
theorem U1{T:dl}{n sz:Nat}{z:PV}{a:Array (Nat×dk)}(C:o.op= .buildSlice T n a)(b:cH P T=some sz)(W:cz P (er P T)=some z)(hs:bF P (aL z)=sz)(ac:n*sz<=1000000)
 (O:mj P (hC n sz) (a.toList.map fun(i,x)=>(i,ρ x))):
 bA P o ρ base {v:=.sl base 0 sz 0 n,aX:=[.arr .exact 0 sz (iL (hC n (.p z)) (a.toList.map fun(i,x)=>(i,ρ x)))]}:=by
 obtain⟨e,af,b⟩:=kA b;obtain⟨i,f,z1,z2,z3,z4⟩:=qO W;rw[b.qD]at z1;intro H w ad ai β t Q Y _ M;have B:H[base]?=some .hole:=by simpa using M 0 (by simp)
 have D:∀p∈a.toList,aD P w ad β H (ρ p.2) (t p.2)/\aG (aJ H) (ρ p.2):=fun p d=>Y p.2 (by rw[C];exact Lg d);obtain⟨Z,aa⟩:=Lf (ρ:=ρ) (ρc:=t) (parts:=a) (fun p d=>(D p d).1);have F:=z3 w ad;have s:f.cells.size=sz:=by have:=(pD F).1;simp at this;omega
 have r:=yn (β:=β) (H:=H) F n;have X:f.cells.toList.length=sz:=by simpa using s
 rw[X]at r;obtain⟨y,m⟩:∃c,c=(cc (n*sz)).map (f.cells[·% f.cells.size]!):=⟨_,rfl⟩
 have N:y.toList=(hC n f.cells.toList).flatten:=by
  rw[m,<-s];exact B7 _ _ (by rw[s];exact b.pos)
 have S:bM P w ad β H (hC n sz) (hC n (.p z)) (hC n f.cells.toList):=by
  unfold Row at r;simpa using r
 obtain⟨u,I,g1,g2,g3⟩:=Cm (place:=fun i=>some (i*sz,sz)) (by
  intro i ae j;rw[hM]at j
  split at j
  ·rename_i ab;simp at j;subst j;rw[hF,i3 (by omega),hE]
  ·simp at j) Z aa O S N
 have l:(iL (hC n (.p z)) (a.toList.map fun(i,x)=>(i,ρ x))).length=n:=by
  have:=(yo g2).2.1;simpa using this
 have E:Row P w ad β H sz (iL (hC n (.p z)) (a.toList.map fun(i,x)=>(i,ρ x))) I:=by unfold Row;rw[l];exact g2
 have R:ba (aJ H) (iL (hC n (.p z)) (a.toList.map fun(i,x)=>(i,ρ x))):=by
  refine CM ?_ ?_
  ·rw[dc];intro v V;rw[h6 V];simp[aG]
  ·intro p d;simp only[iz]at d;obtain⟨q,hq,rfl⟩:=d;exact(D q hq).2
 have L:u.size=n*sz:=by
  have A:=(fV E).2;rw[l,<-g3]at A;simpa using A
 have U:(dp t o).run P w=.ok (.value (.slice (some ⟨w.heap.size,0,none⟩) n n)) {w with heap:=w.heap.push (.cells u e)}:=by
  simp only[dp,C];have J:¬(n*sz>2^24):=by omega
  have K:n*sz=0->(cc (n*sz)).map ((#[]:Array dg)[·% (#[]:Array dg).size]!)=y:=by
   intro g;rw[m,g];simp
  refine vk ?_;simp only[Instr.buildSlice,hm,db b.gF,hl,b.run,if_neg J]
  by_cases g:n*sz=0
  ·rw[if_pos g];simp only[hm,hn,hl,K g,g1,newRow,ee]
  ·rw[if_neg g];simp only[hm,hn,hl,tF z1 z2,<-m,g1,newRow,ee]
 obtain⟨q1,G⟩:=Cd (T:=e) (k:=.exact) Q B (by simp) (by simp[di,AK.gr]) E R (rest:=[]) (by simpa using g3) (by rw[L]) (by omega:_<=n) (fun _=>l.symm) (fun h=>by cases h);rw[l]at G;exact⟨_,_,_,_,ad,U,.inl rfl,q1,G,by
  simp only[aG,ma];exact⟨_,hB (hA.1 B).1,i0 _⟩⟩
theorem U9{T:dl}{lo q:dk}{sz:Nat}{z:PV}{l:Int}(t:o.op= .makeSlice T lo q)(a:cH P T=some sz)(W:cz P (er P T)=some z)(K:ρ lo= .p (.int .i64 l))(hc:ρ q= .p (.int .i64 l))
 (hs:bF P (aL z)=sz)(b:0<=l)(L:l<=cN):bA P o ρ base {v:=.sl base 0 sz 0 l.toNat,aX:=[.arr .exact 0 sz (hC l.toNat (.p z))]}:=by
 obtain⟨e,d,a⟩:=kA a;obtain⟨i,g,z1,z2,z3,z4⟩:=qO W;rw[a.qD]at z1;intro H w ad ai β Y N B _ J;have u:H[base]?=some .hole:=by simpa using J 0 (by simp)
 have r:=(B lo (by simp[t,gy])).1;have j:=(B q (by simp[t,gy])).1;rw[K]at r;rw[hc]at j;simp only[aD,aF]at r j;have A:=z3 w ad;have m:g.cells.size=sz:=by have:=(pD A).1;simp at this;omega
 obtain⟨n,rfl⟩:=Int.eq_ofNat_of_zero_le b;have y:=yn (β:=β) (H:=H) A n;have X:g.cells.toList.length=sz:=by simpa using m
 rw[X]at y;obtain⟨f,s⟩:∃c,c=(cc (n*sz)).map (g.cells[·% g.cells.size]!):=⟨_,rfl⟩
 have x:f.toList=(hC n g.cells.toList).flatten:=by
  rw[s,<-m];exact B7 _ _ (by rw[m];exact a.pos)
 have M:n<=1073741824:=by unfold cN at L;omega
 have D:d.bytes*n<=32768*1073741824:=i7 (by have:=a.bytes;omega) M;have O:(dp Y o).run P w=.ok (.value (.slice (some ⟨w.heap.size,0,none⟩) n n)) {w with heap:=w.heap.push (.cells f e)}:=by
  simp only[dp,t,r,j];have V:IntKind.i64.wrap (n:Int)=n:=IntWalk.i64_in _ (by omega);have Q:¬((n:Int)<0):=by omega
  have R:¬((d.bytes:Int)*n>2^48):=by
   intro I;have j:d.bytes*n<=35184372088832:=D;have Z:((d.bytes*n:Nat):Int)>281474976710656:=by rw[Int.natCast_mul];exact I
   omega
  have E:n*sz=0->(cc (n*sz)).map ((#[]:Array dg)[·% (#[]:Array dg).size]!)=f:=by
   intro b;rw[s,b];simp
  have S:(typeInfo e).run P w=.ok d w:=by simp[typeInfo,a.info]
  have F:((decide ((n:Int)<0)||decide ((d.bytes:Int)*n>2^48))||decide ((n:Int)<0)||decide ((n:Int)>n))=false:=by
   simp only[Q,R,decide_false,Bool.or_false,Bool.false_or];simp
  refine vk ?_;simp only[Instr.makeSlice,hm,db a.gF,hl,asInt,asIntOf,hn,S,V];rw[if_neg (by simpa using F)];simp only[hm,run_askRoom,hl,a.run,Int.toNat_natCast]
  by_cases b:n*sz=0
  ·rw[if_pos b];simp only[hm,hn,hl,E b,newRow,ee]
  ·rw[if_neg b];simp only[hm,hn,hl,tF z1 z2,<-s,newRow,ee]
 have G:f.size=n*sz:=by
  have:=congrArg hU x;simp at this;rw[this];simp[m]
 obtain⟨q1,C⟩:=Cd (T:=e) (k:=.exact) N u (cells:=f) (cap:=n) (by simp) (by simp[di,AK.gr]) y (by
  rw[dc];intro v U;rw[h6 U];simp[aG]) (rest:=[]) (by simpa using x) G (by simp) (fun _=>by simp) (fun h=>by cases h)
 simp only[List.length_replicate]at C;exact⟨_,_,_,_,ad,O,.inl rfl,q1,C,by
  simp only[aG,ma];exact⟨_,hB (hA.1 u).1,i0 _⟩⟩
end
section
variable{P:dz}{w:dq}{ad ai:Nat->Prop}{β:Bd}{H:an}
variable{o:Oper}{ρ:dk->AV}{base:Nat}
theorem kI{x:Option dk}{d:Nat}{R:Nat->Prop}(h:gK (x.map ρ) d R):
 ∃n,R n/\((x=none/\n=d)\/∃y k,x=some y/\ρ y=.p (.int k n)):=by
 cases x with
 |none=>exact⟨d,h,.inl ⟨rfl,rfl⟩⟩
 |some y=>
  simp only[j4,gK]at h
  split at h
  ·rename_i hx;cases hx
  ·rename_i k i hx;simp at hx;obtain⟨a,h⟩:=h;refine⟨i.toNat,h,.inr ⟨y,k,rfl,?_⟩⟩;rw[hx,Int.toNat_of_nonneg a]
  ·exact h.elim
theorem tj{lo hi:Option dk}{ρc:dk->dg}{b:Bool}{len cap d h l:Nat}(m:d=len)(n:(hi=none/\h=d)\/∃y k,hi=some y/\ρ y= .p (.int k h))(o:(lo=none/\l=0)\/∃y k,lo=some y/\ρ y= .p (.int k l))
 (f:h<=cap)(g:l<=h)(e:∀y,(hi=some y\/lo=some y)->aD P w ad β H (ρ y) (ρc y)):(ge b len cap (lo.map ρc) (hi.map ρc) none).run P w=.ok (l,h,cap) w:=by
 subst m;rcases n with⟨rfl,rfl⟩|⟨y,k,rfl,i⟩<;>rcases o with⟨rfl,rfl⟩|⟨z,q,rfl,j⟩
 ·simp[ge]
 ·have c:=e z (.inr rfl);rw[j]at c;simp only[aD,aF]at c;simp[ge,c,gj,asIntOf,g]
 ·have a:=e y (.inl rfl);rw[i]at a;simp only[aD,aF]at a;simp[ge,a,gj,asIntOf,f]
 ·have a:=e y (.inl rfl);rw[i]at a;simp only[aD,aF]at a;have c:=e z (.inr rfl);rw[j]at c;simp only[aD,aF]at c;simp[ge,a,c,gj,asIntOf,f,g]
theorem tf{T e:dl}(b:P.underlying T=some (.slice e))(x:dg)(lo hi a:Option dg)(w:dq):(gt T x lo hi a).run P w=(gg T x lo hi a).run P w:=by
 simp only[gt,hm,db b,hl]
theorem Vn{T:dl}(b:P.underlying T=some .string)(x:dg)(lo hi a:Option dg)(w:dq):(gt T x lo hi a).run P w=(gg T x lo hi a).run P w:=by
 simp only[gt,hm,db b,hl]
theorem pF{T:dl}{x y:dk}{lo hi b:Option dk}(a:o.op=.slice T x lo hi b)(h:hi=some y\/lo=some y):y∈o.op.operands:=by
 rw[a];simp only[gy];rcases h with rfl|rfl<;>simp
theorem yv{T:dl}(h:iN P T=true):P.underlying T=some .string:=by
 unfold iN at h
 split at h
 ·assumption
 ·simp at h
theorem vx{aj:Nat}:∀{l:List AV},eZ P aj l↔∀v∈l,aa v≠.bad/\bF P (aa v)=aj
 |[]=>by simp[eZ]
 |v::l=>by simp[eZ,vx (l:=l)]
theorem tK{sz aj:Nat}{a:List AV}{d:List (List dg)}(b:Row P w ad β H aj a d)(hs:eZ P sz a)(g:a≠[]):aj=sz:=by
 cases a with
 |nil=>exact(g rfl).elim
 |cons v a=>
  rw[qX]at b;obtain⟨c,cs,rfl,e,f,_⟩:=b;have:=(vx.1 hs v (by simp)).2;rw[<-f,(nY e).1,this]
theorem Na{aj:Nat}{d:List PV}{e:List (List dg)}(h:bm P w ad (hC d.length aj) d e)(off len:Nat)(f:off+len<=d.length):
 ∃a b c,e=a++b++c/\bm P w ad (hC ((d.drop off).take len).length aj) ((d.drop off).take len) b/\a.flatten.length=off*aj:=by
 have g:Row P w ad ⟨id,id⟩ [] aj (d.map .p) e:=mq.2 h;obtain⟨a,b,c,e1,e2,e3,_⟩:=jV g off len (by simpa using f);rw[BV,mq]at e2;exact⟨a,b,c,e1,e2,e3⟩
theorem YJ{T:dl}{x:dk}{lo hi N:Option dk}(r:o.op= .slice T x lo hi N){H0:an}{K:aZ->Prop}(h:ot P T H0 (ρ x) (lo.map ρ) (hi.map ρ) (N.map ρ) K):
 ∃e,K e/\bA P o ρ base e/\(∀p∈e.aq,H0[p.1]?=some p.2)/\e.aM=[]:=by
 unfold ot at h;obtain⟨ao,h⟩:=h;obtain rfl:N=none:=by cases N<;>simp_all
 have J:x∈o.op.operands:=by rw[r];simp[gy]
 split at h
 ·
  rename_i s hx;obtain⟨af,h⟩:=h;have ab:=yv af;obtain⟨l,h,C⟩:=kI h;obtain⟨f,h,D⟩:=kI h;obtain⟨A,B,h⟩:=h;refine⟨_,h,bA.same fun H w ad ai β n v m _=>?_,by simp,rfl⟩;have j:=(m x J).1;rw[hx]at j;simp only[aD,aF]at j;obtain⟨bs,e1,e2⟩:=j;have ag:s.length=bs.size:=by rw[e2];simp
  have u:=tj (P:=P) (w:=w) (ad:=ad) (β:=β) (H:=H) (b:=false) (cap:=bs.size) (ρ:=ρ) (ρc:=n) ag C D (by omega) B (fun y z=>(m y (pF r z)).1);refine⟨.string (bs.extract f l),?_,?_,by simp[aG]⟩
  ·simp only[dp,r,e1];refine eX ?_;rw[Vn ab];simp only[gg,hm,db ab,hl,j2,Option.isSome_none];simp[u]
  ·simp only[aD,aF];refine⟨_,rfl,?_⟩;rw[e2,<-ix,<-List.map_drop,Go.Lib.extract_data,hW]
 ·
  rename_i hx;obtain⟨g,h⟩:=h;obtain⟨sz,g⟩:=j1.1 g;obtain⟨e,X,g⟩:=kA g;obtain⟨l,h,C⟩:=kI h;obtain⟨f,h,D⟩:=kI h;obtain⟨A,B,F⟩:=h;obtain rfl:l=0:=by omega
  obtain rfl:f=0:=by omega
  refine⟨_,F,bA.same fun H w ad ai β n v m _=>?_,by simp,rfl⟩;have j:=(m x J).1;rw[hx]at j;simp only[aD,aF]at j;have u:=tj (P:=P) (w:=w) (ad:=ad) (β:=β) (H:=H) (b:=true) (cap:=0) (ρ:=ρ) (ρc:=n) (len:=0) (d:=0) rfl C D (by omega) B (fun y z=>(m y (pF r z)).1);refine⟨.slice none 0 0,?_,by rw[hx];simp[aD,aF],by rw[hx];simp[aG]⟩;simp only[dp,r,j];refine eX ?_;rw[tf g.gF];simp only[gg,hm,db g.gF,hl,j2,u,g.run];simp
 ·
  rename_i full q hx;obtain⟨l,h,C⟩:=kI h;obtain⟨f,h,D⟩:=kI h;obtain⟨A,B,h⟩:=h
  split at h
  case h_2=>exact h.elim
  rename_i sz g;obtain⟨U,h⟩:=h;obtain⟨e,X,g⟩:=kA g;refine⟨_,h,bA.same fun H w ad ai β n v m _=>?_,by simp,rfl⟩;have j:=(m x J).1;rw[hx]at j;simp only[aD,aF]at j;obtain⟨au,off,cap,aj,Y,v1,v2,v3,v4,v5,sp,V,v6⟩:=j;have W:cap≠f->sp=none:=fun h=>V.resolve_right (by omega);have u:=tj (P:=P) (w:=w) (ad:=ad) (β:=β) (H:=H) (b:=true) (cap:=cap) (ρ:=ρ) (ρc:=n) rfl C D (by omega) B (fun y z=>(m y (pF r z)).1);refine⟨.slice (some (if cap=f then⟨au,off,sp⟩else⟨au,off+f*sz,none⟩)) (l-f) (cap-f),?_,?_,by simp[aG]⟩
  ·simp only[dp,r,v6];refine eX ?_;rw[tf g.gF];simp only[gg,hm,db g.gF,hl,j2,u,g.run]
   by_cases hc:cap=f
   ·simp[hc]
   ·obtain rfl:=W hc;simp[hc,kM]
  ·have I:((q.take l).drop f).length=l-f:=by simp;omega
   simp only[aD,aF,I]
   by_cases E:q=[]
   ·subst E;simp at A;subst A;obtain rfl:f=0:=by omega
    by_cases hc:cap=0
    ·exact⟨au,off,cap,sz,[],by simp[bm],by simp,by intro i hi;simp at hi,fun _=>by simpa using hc,by simp,sp,.inr hc,by simp[hc]⟩
    ·exact⟨au,off,cap,sz,[],by simp[bm],by simp,by intro i hi;simp at hi,fun hf=>by simp at hf;simpa using v4 hf,by simp,none,.inl rfl,by simp[hc]⟩
   ·have Q:aj=sz:=tK (w:=w) (ad:=ad) (β:=β) (H:=H) (mq.2 v1) U (by simpa using E);subst Q;obtain⟨a,b,c,e1,e2,e3⟩:=Na v1 f (l-f) (by omega);rw[<-hW]at e2;have am:(q.drop f).take (l-f)=(q.take l).drop f:=by rw[hW]
    rw[I]at e2
    by_cases hc:cap=f
    ·obtain rfl:l=f:=by omega
     have O:b=[]:=by
      have:=(vm e2).2.2;simpa using this
     subst O;refine⟨au,off,cap-l,aj,[],by simpa using e2,fun _=>v2 E,by intro i hi;simp at hi,?_,by omega,sp,.inr (by omega),by simp[hc]⟩;intro _;omega
    ·refine⟨au,off+f*aj,cap-f,aj,b,e2,fun _=>v2 E,?_,?_,by omega,none,.inl rfl,by simp[hc]⟩
     ·have:=tu v3 (pre:=a.flatten) (xs:=b.flatten) (post:=c.flatten) (by rw[e1];simp);rw[e3]at this;exact this
     ·intro hf;simp at hf;have:=v4 hf.1;omega
 ·
  rename_i q hx;obtain⟨l,h,C⟩:=kI h;obtain⟨f,h,D⟩:=kI h;obtain⟨A,B,h⟩:=h
  split at h
  case h_2=>exact h.elim
  rename_i sz g;obtain⟨U,h⟩:=h;obtain⟨e,X,g⟩:=kA g;refine⟨_,h,bA.same fun H w ad ai β n v m _=>?_,by simp,rfl⟩;have j:=(m x J).1;rw[hx]at j;simp only[aD,aF]at j;rcases j with⟨rfl,j⟩|⟨au,off,cap,aj,Y,v1,v2,v3,v5,sp,V,v6⟩
  ·simp at A;subst A;obtain rfl:f=0:=by omega
   have u:=tj (P:=P) (w:=w) (ad:=ad) (β:=β) (H:=H) (b:=true) (cap:=0) (ρ:=ρ) (ρc:=n) (len:=0) (d:=0) rfl C D (by omega) B (fun y z=>(m y (pF r z)).1);refine⟨.slice none 0 0,?_,by simp[aD,aF],by simp[aG]⟩;simp only[dp,r,j];refine eX ?_;rw[tf g.gF];simp only[gg,hm,db g.gF,hl,j2,u,g.run];simp
  have W:cap≠f->sp=none:=fun h=>V.resolve_right (by omega);have u:=tj (P:=P) (w:=w) (ad:=ad) (β:=β) (H:=H) (b:=true) (cap:=cap) (ρ:=ρ) (ρc:=n) rfl C D (by omega) B (fun y z=>(m y (pF r z)).1);refine⟨.slice (some (if cap=f then⟨au,off,sp⟩else⟨au,off+f*sz,none⟩)) (l-f) (cap-f),?_,?_,by simp[aG]⟩
  ·simp only[dp,r,v6];refine eX ?_;rw[tf g.gF];simp only[gg,hm,db g.gF,hl,j2,u,g.run]
   by_cases hc:cap=f
   ·simp[hc]
   ·obtain rfl:=W hc;simp[hc,kM]
  ·have I:((q.take l).drop f).length=l-f:=by simp;omega
   simp only[aD,aF,I];right
   by_cases E:q=[]
   ·subst E;simp at A;subst A;obtain rfl:f=0:=by omega
    by_cases hc:cap=0
    ·exact⟨au,off,cap,sz,[],by simp[bm],by simp,by intro i hi;simp at hi,by simp,sp,.inr hc,by simp[hc]⟩
    ·exact⟨au,off,cap,sz,[],by simp[bm],by simp,by intro i hi;simp at hi,by simp,none,.inl rfl,by simp[hc]⟩
   ·have Q:aj=sz:=tK (w:=w) (ad:=ad) (β:=β) (H:=H) (mq.2 v1) U (by simpa using E);subst Q;obtain⟨a,b,c,e1,e2,e3⟩:=Na v1 f (l-f) (by omega);rw[<-hW]at e2;rw[I]at e2
    by_cases hc:cap=f
    ·obtain rfl:l=f:=by omega
     have O:b=[]:=by
      have:=(vm e2).2.2;simpa using this
     subst O;exact⟨au,off,cap-l,aj,[],by simpa using e2,fun _=>v2 E,by intro i hi;simp at hi,by omega,sp,.inr (by omega),by simp[hc]⟩
    ·refine⟨au,off+f*aj,cap-f,aj,b,e2,fun _=>v2 E,?_,by omega,none,.inl rfl,by simp[hc]⟩;have:=tu v3 (pre:=a.flatten) (xs:=b.flatten) (post:=c.flatten) (by rw[e1];simp);rw[e3]at this;exact this
 ·
  rename_i b aC aj off len hx
  split at h
  case h_2=>exact h.elim
  rename_i k ap al q S;obtain⟨rfl,rfl,g,M,hlen,h⟩:=h;obtain⟨l,h,C⟩:=kI h;obtain⟨f,h,D⟩:=kI h;obtain⟨A,B,F⟩:=h;obtain⟨e,X,g⟩:=kA g
  have key:∀(H:an)(w:dq)(ad ai:Nat->Prop)(β:Bd)(n:dk->dg),bX P w ad β H ai->(∀x∈o.op.operands,aD P w ad β H (ρ x) (n x)/\aG (aJ H) (ρ x))->
   H[b]?=some (.arr k aC aj q)->q.length<=β.cap b/\(dp n o).run P w=.ok (.value (.slice (some (if β.cap b-off=f then⟨β.au b,off*aj,none⟩else⟨β.au b,off*aj+f*aj,none⟩)) (l-f) (β.cap b-off-f))) w:=by
   intro H w ad ai β n v m t;have j:=(m x J).1;rw[hx]at j;simp only[aD,bO,bU]at j;obtain⟨_,_,j⟩:=j.2 k q t;have j:=j M;rcases v.cO b _ t with hold|⟨cs,ak,Y,rest,k1,k2,k3,k4,k5,k6⟩
   ·exact(M hold).elim
   have u:=tj (P:=P) (w:=w) (ad:=ad) (β:=β) (H:=H) (b:=true) (cap:=β.cap b-off) (ρ:=ρ) (ρc:=n) rfl C D (by omega) B (fun y z=>(m y (pF r z)).1);refine⟨k5,?_⟩;simp only[dp,r,j];refine eX ?_;rw[tf g.gF];simp only[gg,hm,db g.gF,hl,j2,u,g.run]
   by_cases hc:β.cap b-off=f
   ·simp[hc]
   ·simp[hc,kM]
  split at F
  ·rename_i Z;subst Z;refine⟨_,F,bA.same fun H w ad ai β n v m aq=>?_,by simpa using S,rfl⟩;have t:H[b]?=some (.arr k aC aj q):=by simpa using aq
   obtain⟨ac,L⟩:=key H w ad ai β n v m t;refine⟨_,L,?_,?_⟩
   ·simp only[aD,bO,bU];refine⟨by simp[hv],fun ah ae G=>?_⟩;unfold fq at G;rw[t]at G;cases G;exact⟨by omega,fun R=>(M R).elim,fun _=>by simp⟩
   ·simp only[aG];exact⟨_,t,i0 _⟩
  ·rename_i Z
   split at F
   ·rename_i aa;subst aa;refine⟨_,F,bA.same fun H w ad ai β n v m aq=>?_,by simpa using S,rfl⟩;have t:H[b]?=some (.arr k aC aj q):=by simpa using aq
    obtain⟨ac,L⟩:=key H w ad ai β n v m t;refine⟨_,L,?_,by simp[aG]⟩;simp only[aD,aF]
    by_cases hc:β.cap b-off=f
    ·exact⟨β.au b,off*aj,β.cap b-off-f,aj,[],by simp[bm],by simp,by intro i hi;simp at hi,by simp,by simp,by simp[hc]⟩
    ·exact⟨β.au b,off*aj+f*aj,β.cap b-off-f,aj,[],by simp[bm],by simp,by intro i hi;simp at hi,by simp,by simp,by simp[hc]⟩
   ·rename_i aa;refine⟨_,F,bA.same fun H w ad ai β n v m aq=>?_,by simpa using S,rfl⟩;have t:H[b]?=some (.arr k aC aj q):=by simpa using aq
    obtain⟨ac,L⟩:=key H w ad ai β n v m t;refine⟨_,L,?_,?_⟩
    ·simp only[aD,bO,bU];refine⟨by simp[hv],fun ah ae G=>?_⟩;unfold fq at G;rw[t]at G;cases G;refine⟨by omega,fun R=>(M R).elim,fun _=>?_⟩;have hc:¬(β.cap b-off=f):=by omega
     rw[if_neg hc,i4,Nat.sub_sub]
    ·simp only[aG];exact⟨_,t,i0 _⟩
 ·exact h.elim
theorem Xy{T:dl}{x:dk}{lo hi:Option dk}{d:dk}(g:o.op= .slice T x lo hi (some d)){H0:an}{K:aZ->Prop}(h:q9 P T H0 (ρ x) (lo.map ρ) (hi.map ρ) (ρ d) K):
 ∃e,K e/\bA P o ρ base e/\(∀p∈e.aq,H0[p.1]?=some p.2)/\e.aM=[]:=by
 unfold q9 at h;have S:x∈o.op.operands:=by rw[g];simp[gy]
 split at h
 case h_2=>exact h.elim
 rename_i b aC aj off len hx
 split at h
 case h_2=>exact h.elim
 rename_i k ag ab es V;obtain⟨rfl,rfl,c,E,hlen,X,h⟩:=h;obtain⟨i,h,Q⟩:=kI h;obtain⟨I,h,R⟩:=kI h;have J:gK ((some d).map ρ) 0 (fun m=>off+m<=es.length/\i<=m/\I<=i/\K {v:=.p .undef,aq:=[(b,.arr k aC aj es)]}):=h;obtain⟨B,h,U⟩:=kI J;obtain⟨ac,C,L,M⟩:=h;obtain⟨sz,c⟩:=j1.1 c;obtain⟨e,af,c⟩:=kA c;refine⟨_,M,bA.same fun H w ad ai β f W n aq=>?_,by simpa using V,rfl⟩;have F:H[b]?=some (.arr k aC aj es):=by simpa using aq
 have a:=(n x S).1;rw[hx]at a;simp only[aD,bO,bU]at a;obtain⟨_,_,a⟩:=a.2 k es F;have a:=a E;rcases W.cO b _ F with hold|⟨cs,Z,aa,rest,k1,k2,k3,k4,k5,k6⟩
 ·exact(E hold).elim
 have s:∃q,ρ d=.p (.int q B):=by
  rcases U with⟨h,_⟩|⟨y,q,A,a⟩
  ·cases h
  ·cases A;exact⟨q,a⟩
 obtain⟨q,s⟩:=s;have j:=(n d (by rw[g];simp[gy])).1;rw[s]at j;simp only[aD,aF]at j;have O:∃y G,hi=some y/\ρ y=.p (.int G i):=by
  rcases Q with⟨rfl,_⟩|h
  ·simp at X
  ·exact h
 obtain⟨y,G,rfl,A⟩:=O;have l:=(n y (pF g (.inl rfl))).1;rw[A]at l;simp only[aD,aF]at l;have N:(ge true len (β.cap b-off) (lo.map f) (some (f y)) (some (f d))).run P w=.ok (I,i,B) w:=by
  have D:(B:Int)<=((β.cap b-off:Nat):Int):=by omega
  rcases R with⟨rfl,rfl⟩|⟨z,ae,rfl,Y⟩
  ·simp[ge,j,l,gj,asIntOf,D,C]
  ·have u:=(n z (pF g (.inr rfl))).1;rw[Y]at u;simp only[aD,aF]at u;simp[ge,j,l,u,gj,asIntOf,D,C,L]
 have t:∃r,(gt T (f x) (lo.map f) (some (f y)) (some (f d))).run P w=.ok r w:=by
  rw[tf c.gF,a];simp only[gg,hm,db c.gF,hl,N,c.run];exact⟨_,rfl⟩
 obtain⟨r,t⟩:=t;refine⟨r,?_,by simp only[aD,aF],by simp[aG]⟩;simp only[dp,g,j4];exact eX t
end
section
variable{P:dz}{w:dq}{ad ai:Nat->Prop}{β:Bd}{H:an}
variable{o:Oper}{ρ:dk->AV}{base:Nat}
theorem abi{H0 H:an}{a:AV}{c:List AV}(h:gW H0 a=some c)(aq:∀p∈dF H0 a,H[p.1]?=some p.2):gW H a=some c:=by
 cases a with
 |sl b aC aj off len=>
  simp only[gW]at h⊢;simp only[dF]at aq
  split at h
  case h_2=>simp at h
  rename_i k g f e d;rw[d]at aq;have:=aq _ (h0.2 rfl);simp only at this;rw[this];exact h
 |p v=>cases v<;>exact h
 |_=>simp[gW]at h
theorem nN{H0:an}{a:AV}:∀p∈dF H0 a,H0[p.1]?=some p.2:=by
 intro p b;unfold dF at b
 split at b
 all_goals first
  |(split at b
    ·rename_i o c;simp at b;subst b;exact c
    ·simp at b)
  |simp at b
theorem vi{sz m:Nat}{au off n c:Nat}{w:dq}{xs:List dg}(e:xs.length=m*sz)(hc:gX w au off xs):(e9 sz m (.slice (some ⟨au,off,none⟩) n c)).run P w=.ok xs.toArray w:=by
 refine ej w sz m _ n c xs e ?_;intro j v a;rw[kM];obtain⟨b,d⟩:=hA.1 a;rw[hc j b,d]
theorem BQ{sz n c:Nat}{a:Addr}{w:dq}:(e9 sz 0 (.slice (some a) n c)).run P w=.ok #[] w:=
 ej w sz 0 a n c [] (by simp) (fun j v b=>by simp at b)
theorem vX{sz:Nat}{a:AV}{u:List AV}{v:dg}(g:gW H a=some u)(I:bX P w ad β H ai)(i:aD P w ad β H a v)(S:aG (aJ H) a)(hs:eZ P sz u):
 ∃d,Row P w ad β H sz u d/\ba (aJ H) u/\fm v=pure u.length/\
  ∀w':dq,w'.heap=w.heap->∀m,m<=u.length->(e9 sz m v).run P w'=.ok (d.take m).flatten.toArray w':=by
 have G:∀{f:List AV}{d:List (List dg)}(m:Nat),Row P w ad β H sz f d->m<=f.length->(d.take m).flatten.length=m*sz:=by
  intro f d m h j;obtain⟨x,y,z,e1,e2,e3,e4,e5⟩:=jV h 0 m (by omega);have hx:x=[]:=by have:=(fV e4).1;simpa using this
  have O:y.length=m:=by have:=(fV e2).1;simp at this;omega
  subst hx;have K:d.take m=y:=by rw[e1];simp[O]
  rw[K];have:=(fV e2).2;rw[this];simp[j]
 have cells:∀{au off:Nat}{d:List (List dg)}(w':dq),w'.heap=w.heap->gX w au off d.flatten->∀m,gX w' au off (d.take m).flatten:=by
  intro au off d w' q hc m;have J:gX w' au off d.flatten:=hc.same (by rw[q]);have:=tu J (pre:=[]) (xs:=(d.take m).flatten) (post:=(d.drop m).flatten) (by
   rw[ik,<-hZ,List.take_append_drop])
  simpa using this
 cases a with
 |p t=>
  cases t with
  |aP=>
   simp[gW]at g;subst g;simp only[aD,aF]at i;subst i;exact⟨[],iF.2 rfl,by simp[ba],rfl,fun w' _ m j=>by simp[e9]⟩
  |cT full f=>
   simp[gW]at g;subst g;simp only[aD,aF]at i;obtain⟨au,off,cap,aj,d,v1,v2,v3,v4,v5,sp,E,rfl⟩:=i;rcases E with rfl|rfl
   case inr=>
    obtain rfl:f=[]:=hG.1 (by omega);exact⟨[],iF.2 rfl,by simp[ba],rfl,fun w' _ m j=>by
     obtain rfl:m=0:=by simpa using j
     exact BQ⟩
   have h:Row P w ad β H aj (f.map .p) d:=mq.2 v1;have o:Row P w ad β H sz (f.map .p) d:=by
    by_cases n:f.map AV.p=[]
    ·rw[n]at h⊢;rw[iF]at h⊢;exact h
    ·rw[<-tK h hs n];exact h
   refine⟨d,o,jg _ _,by simp[fm],fun w' q m j=>?_⟩;exact vi (G m o j) (cells w' q v3 m)
  |seq f=>
   simp[gW]at g;subst g;simp only[aD,aF]at i;rcases i with⟨rfl,rfl⟩|⟨au,off,cap,aj,d,v1,v2,v3,v5,sp,E,rfl⟩
   ·exact⟨[],iF.2 rfl,by simp[ba],rfl,fun w' _ m j=>by simp[e9]⟩
   rcases E with rfl|rfl
   case inr=>
    obtain rfl:f=[]:=hG.1 (by omega);exact⟨[],iF.2 rfl,by simp[ba],rfl,fun w' _ m j=>by
     obtain rfl:m=0:=by simpa using j
     exact BQ⟩
   have h:Row P w ad β H aj (f.map .p) d:=mq.2 v1;have o:Row P w ad β H sz (f.map .p) d:=by
    by_cases n:f.map AV.p=[]
    ·rw[n]at h⊢;rw[iF]at h⊢;exact h
    ·rw[<-tK h hs n];exact h
   refine⟨d,o,jg _ _,by simp[fm],fun w' q m j=>?_⟩;exact vi (G m o j) (cells w' q v3 m)
  |str s=>
   simp[gW]at g;subst g;simp only[aD,aF]at i;obtain⟨bs,rfl,rfl⟩:=i;have N:sz=1\/bs.data.toList=[]:=by
    cases B:bs.data.toList with
    |nil=>exact .inr rfl
    |cons a r=>
     rw[B]at hs;simp[eZ,aa,aL,bF]at hs;exact .inl hs.1.symm
   have h:Row P w ad β H sz ((bs.data.toList.map (·.toNat)).map fun c=>.p (.int .u8 (c:Nat))) (bs.data.toList.map fun c=>[hw .u8 c.toNat]):=by
    rcases N with rfl|B
    ·generalize bs.data.toList=l
     induction l with
     |nil=>exact iF.2 rfl
     |cons a r F=>exact qX.2 ⟨_,_,rfl,by simp[br,aW],rfl,F⟩
    ·rw[B];exact iF.2 rfl
   refine⟨_,h,by rw[dc];intro v i;simp at i;obtain⟨a,_,rfl⟩:=i;simp[aG],by simp[fm],fun w' _ m _=>?_⟩;have e:((bs.data.toList.map fun c=>[hw .u8 c.toNat]).take m).flatten=(bs.data.toList.take m).map fun c=>hw .u8 c.toNat:=by
    rw[<-ix];generalize bs.data.toList.take m=l
    induction l with
    |nil=>rfl
    |cons a r F=>simp[F]
   rw[e];simp only[e9,hn];congr 1;apply b4;simp[ByteArray.data_extract]
  |_=>simp[gW]at g
 |sl b aC aj off len=>
  simp only[gW]at g
  split at g
  case h_2=>simp at g
  rename_i k T R f D
  split at g
  case isFalse=>simp at g
  rename_i hc;obtain⟨rfl,rfl,C⟩:=hc;simp at g;subst g;simp only[aD,bO,bU]at i;obtain⟨_,v2,v3⟩:=i.2 k f D;have M:((f.drop off).take len).length=len:=by simp;omega
  by_cases A:di k f
  ·rw[v2 A];have L:=A.2;subst L;simp at C;obtain⟨rfl,rfl⟩:=C;exact⟨[],iF.2 (by simp),by simp[ba],rfl,fun w' _ m j=>by simp[e9]⟩
  ·rw[v3 A];rcases I.cO b _ D with hold|⟨cs,Q,d,rest,k1,k2,k3,k4,k5,k6⟩
   ·exact(A hold).elim
   obtain⟨x,y,z,e1,e2,e3,e4,e5⟩:=jV k2 off len C;have o:Row P w ad β H sz ((f.drop off).take len) y:=by
    by_cases n:(f.drop off).take len=[]
    ·rw[n]at e2⊢;rw[iF]at e2⊢;exact e2
    ·rw[<-tK e2 hs n];exact e2
   refine⟨y,o,?_,by rw[M];rfl,fun w' q m j=>?_⟩
   ·rw[dc];intro v i;exact dc.1 (I.refs b _ D) v (hN (hJ i))
   ·refine vi (G m o j) (cells w' q ?_ m);rw[<-e3];exact mg k1 (post:=z.flatten++rest) (by rw[k3,e1];simp)
 |_=>simp[gW]at g
theorem Xh{T X e:dl}{i:ea}{f:dg}{sz:Nat}(a:qV P T sz e i)(b:iX P X=true)(y:i.zero=some f)(A:dl){p:Option Addr}{sLen sCap n:Nat}{j h:Array dg}(x:dg)
 (hx:fm x=pure n)(s:(e9 sz sLen (.slice p sLen sCap)).run P w.drew=.ok j w.drew)(aX:(e9 sz n x).run P w.drew=.ok h w.drew)(q:sCap<sLen+n)(g:sLen+n<=cN):
 ∃cap,sLen+n<=cap/\(fb #[T,X] A #[.slice p sLen sCap,x]).run P w=
  .ok (.slice (some ⟨w.heap.size,0,none⟩) (sLen+n) cap) {w.drew with heap:=w.heap.push (.cells (j++h++fv f.cells (cap-(sLen+n))) e)}:=by
 refine⟨grownCap w (sLen+n) sCap e,by simp[grownCap,Question.cut],?_⟩;have o:∃d,P.underlying X=some d/\∀k,d≠.int k:=by
  unfold iX at b
  split at b
  ·simp at b
  ·rename_i d c v;exact⟨_,v,c⟩
  ·simp at b
 obtain⟨d,c,B⟩:=o;have r:¬(sLen+n<=sCap):=by omega
 have m:¬(9223372036854775807<((sLen:Int)+(n:Int))):=by unfold cN at g;omega
 have C:fw (sLen+n) sCap*i.bytes<=281474976710656:=by
  refine growslice_fits q ?_;have:=i7 g (Nat.le_of_lt a.bytes);unfold cN at this;omega
 have l:¬(281474976710656<fw (sLen+n) sCap*i.bytes):=by omega
 have t:(sizeOf e).run P w=.ok sz w:=a.run w;have u:∀w:dq,(typeInfo e).run P w=.ok i w:=fun w=>by simp[typeInfo,a.info]
 have z:∀w:dq,(zeroValue e).run P w=.ok f w:=fun w=>by simp[zeroValue,typeInfo,a.info,y]
 simp[fb,db a.gF,db c,t,u,z,hx,r,m,l,Question.forced,s,aX,newRow,grownCap,Array.append_assoc];rfl
theorem JR{T X e:dl}{i:ea}{sz:Nat}(j:qV P T sz e i)(c:iX P X=true)(t:dl){g off:Nat}{sLen sCap n:Nat}{b:Array dg}{h:dl}{a:List dg}(x:dg)
 (hx:fm x=pure n)(o:w.heap[g]?=some (.cells b h (0,0)))(aX:(e9 sz n x).run P w=.ok a.toArray w)(l:∀u∈a,u.oneCell'=true)(q:sLen+n<=sCap)(p:off+sLen*sz+a.length<=b.size):
 (fb #[T,X] t #[.slice (some ⟨g,off,none⟩) sLen sCap,x]).run P w=
  .ok (.slice (some ⟨g,off,none⟩) (sLen+n) sCap) (w.setRow g (b.toList.take (off+sLen*sz)++a++b.toList.drop (off+sLen*sz+a.length)).toArray):=by
 have m:∃d,P.underlying X=some d/\∀k,d≠.int k:=by
  unfold iX at c
  split at c
  ·simp at c
  ·rename_i d f s;exact⟨_,s,f⟩
  ·simp at c
 obtain⟨d,f,v⟩:=m;have aO:=em P g (off+sLen*sz) h a 0 b w o (by simpa using p) l;simp only[i5]at aO;have r:(sizeOf e).run P w=.ok sz w:=j.run w;simp[fb,db j.gF,db f,r,hx,q,aX,kM,aO]
theorem Wd{T X e:dl}{i:ea}{sz:Nat}(f:qV P T sz e i)(b:iX P X=true)(m:dl){p:Option Addr}{sLen sCap:Nat}(x:dg)
 (hx:fm x=pure 0)(aX:(e9 sz 0 x).run P w=.ok #[] w)(g:sLen<=sCap):
 (fb #[T,X] m #[.slice p sLen sCap,x]).run P w=.ok (.slice p sLen sCap) w:=by
 have j:∃d,P.underlying X=some d/\∀k,d≠.int k:=by
  unfold iX at b
  split at b
  ·simp at b
  ·rename_i d c l;exact⟨_,l,c⟩
  ·simp at b
 obtain⟨d,c,n⟩:=j;have h:(sizeOf e).run P w=.ok sz w:=f.run w;cases p with
 |none=>simp[fb,db f.gF,db c,h,hx,g,aX]
 |some a=>simp[fb,db f.gF,db c,h,hx,g,aX,storeCells]
theorem b6.drew{aH:Nat->Prop}{w1 w':dq}{aK:Bd}{H':an}(a:w1.heap=w.heap)(b:w1.os=w.os/\w1.output=w.output)(h:b6 P ai ad w1 β H aH w' aK H'):b6 P ai ad w β H aH w' aK H':=
 ⟨h.bS,h.fresh,⟨by rw[<-a];exact h.ext.size,fun k hk=>by rw[<-a];exact h.ext.same k hk,h.ext.io.1.trans b.1,h.ext.io.2.trans b.2⟩,h.step,h.rel,h.fa,h.loop⟩
theorem UJ(z:Array dg)(n:Nat):(fv z n).size=n*z.size:=by simp[fv]
theorem wu{aj:Nat}:∀{b:List AV}{a:List (List dg)},Row P w ad β H aj b a->∀c∈a.flatten,c.oneCell'=true
 |[],a,h=>by rw[iF]at h;subst h;simp
 |v::b,a,h=>by
  rw[qX]at h;obtain⟨c,cs,rfl,d,_,e⟩:=h;intro x hx;simp only[hP,h2]at hx;exact hx.elim (zA d x) (wu e x)
theorem Row.mono{w':dq}{aH:Nat->Prop}{aK:Bd}{H':an}(hI:∀k,ad k->aH k)(hs:∀k,ad k->w'.heap[k]?=w.heap[k]?)(aO:cC β H aK H'){aj:Nat}{a:List AV}{b:List (List dg)}(c:ba (aJ H) a)
 (h:Row P w ad β H aj a b):Row P w' aH aK H' aj a b:=bM.mono hI hs aO _ _ _ c h
theorem yw{c:Call}{s x:dk}(e:o.op= .call c)(hc:c.callee= .builtin .append)(b:c.args.toList=[s,x]){a:dk->dg}{w w':dq}{v:dg}
 (h:(fb c.argTypes o.type #[a s,a x]).run P w=.ok v w'):(dp a o).run P w=.ok (.value v) w':=by
 have d:c.args=#[s,x]:=by apply b4;simpa using b
 simp only[dp,e,resolve,hc,d];simp[invoke,builtin,h]
theorem XL{c:Call}{s x:dk}(e:o.op= .call c)(hc:c.callee= .builtin .copy)(b:c.args.toList=[s,x]){a:dk->dg}{w w':dq}{v:dg}
 (h:(gb c.argTypes o.type #[a s,a x]).run P w=.ok v w'):(dp a o).run P w=.ok (.value v) w':=by
 have d:c.args=#[s,x]:=by apply b4;simpa using b
 simp only[dp,e,resolve,hc,d];simp[invoke,builtin,h]
end
section
variable{P:dz}{w:dq}{ad ai:Nat->Prop}{β:Bd}{H:an}
variable{o:Oper}{ρ:dk->AV}{base:Nat}
theorem yj{c:Call}{s x:dk}(D:o.op= .call c)(hc:c.callee= .builtin .append)(y:c.args.toList=[s,x]){T X e:dl}(I:c.argTypes=#[T,X]){i:ea}{j:dg}{sz:Nat}(u:qV P T sz e i)(v:iX P X=true)
 (L:i.zero=some j)(M:j.cells.size=sz)(F:bX P w ad β H ai){g:dk->dg}{p:Option Addr}{b f:Nat}{olds a:List AV}{ocss:List (List dg)}(hs:g s=.slice p b f)(m:olds.length=b)(l:Row P w ad β H sz olds ocss)(E:ba (aJ H) olds)
 (C:(e9 sz b (.slice p b f)).run P w.drew=.ok ocss.flatten.toArray w.drew)
 (hx:gW H (ρ x)=some a)(K:aD P w ad β H (ρ x) (g x))(J:aG (aJ H) (ρ x))(G:eZ P sz a)(A:f<b+a.length)(B:b+a.length<=cN):
 ∃cap cells d N,(dp g o).run P w=.ok (.value (.slice (some ⟨w.heap.size,0,none⟩) (b+a.length) cap)) {w.drew with heap:=w.heap.push (.cells cells e)}/\
  Row P w ad β H sz (olds++a) d/\ba (aJ H) (olds++a)/\cells.toList=d.flatten++N/\cells.size=cap*sz/\(olds++a).length<=cap:=by
 obtain⟨d,h,q,r,t⟩:=vX hx F K J G;have k:=t w.drew rfl a.length (i0 _);have O:d.length=a.length:=(fV h).1;rw[hS (by omega)]at k;obtain⟨cap,z,n⟩:=Xh u v L o.type (sLen:=b) (sCap:=f) (p:=p) (g x) r C k A B;rw[<-I,<-hs]at n;refine⟨cap,_,ocss++d,(fv j.cells (cap-(b+a.length))).toList,yw D hc y n,lI.2 ⟨_,_,rfl,l,h⟩,jU E q,by simp,?_,by simpa[m]using z⟩;have e1:=(fV l).2;have e2:=(fV h).2;simp only[Array.size_append,h1,UJ,M,e1,e2,m,<-i4];congr 1;omega
theorem uo{T:dl}:gk P T≠.frozen/\gk P T≠.exact:=by
 unfold gk;split<;>simp
theorem EF{T e:dl}(h:er P T=e)(hk:gk P T=.bytes):e=Gl.u8:=by
 unfold gk at hk
 split at hk
 ·rename_i a;rw[<-h];exact a
 ·cases hk
theorem CJ{_o':Obj}{k:AK}{a:List AV}{b:List (List dg)}{r:List dg}{cells:Array dg}{e:dl}{cap sz:Nat}(j:bX P w ad β H ai)(c:H[base]?=some .hole)
 (g:k≠.frozen)(i:¬di k a)(m:Row P w ad β H sz a b)(d:ba (aJ H) a)(hc:cells.toList=b.flatten++r)(o:cells.size=cap*sz)(h:a.length<=cap)(f:k=.exact->cap=a.length)(p:k=.bytes->e=Gl.u8):
 b6 P ai ad w β H ad {w.drew with heap:=w.heap.push (.cells cells e)} (β.at base w.heap.size cap) (bf H ([]++newAt base [.arr k 0 sz a]))/\
 aD P {w.drew with heap:=w.heap.push (.cells cells e)} ad (β.at base w.heap.size cap) (bf H ([]++newAt base [.arr k 0 sz a])) (.sl base 0 sz 0 a.length) (.slice (some ⟨w.heap.size,0,none⟩) a.length cap)/\
 aG (aJ (bf H ([]++newAt base [.arr k 0 sz a]))) (.sl base 0 sz 0 a.length):=by
 have l:bX P w.drew ad β H ai:=bX.yN (w:=w) (w':=w.drew) rfl j;have n:Row P w.drew ad β H sz a b:=Row.mono (w:=w) (w':=w.drew) (fun _ x=>x) (fun _ _=>rfl) (cC.refl _ _) d m;obtain⟨q1,q⟩:=Cd (T:=e) (k:=k) l c g i n d hc o h f p;rw[ma];exact⟨b6.drew (w1:=w.drew) rfl ⟨rfl,rfl⟩ q1,q,⟨_,hB (hA.1 c).1,i0 _⟩⟩
theorem Mf{b:Nat}{k k':AK}{aC aj:Nat}{g es':List AV}{au cap:Nat}(e:H[b]?=some (.arr k aC aj g)):cC β H (β.at b au cap) (H.set b (.arr k' (aC+1) aj es')):=by
 have i:b<H.length:=(hA.1 e).1;have c:∀x,x≠b->(H.set b (.arr k' (aC+1) aj es'))[x]?=H[x]?:=fun x hx=>hV (Ne.symm hx);have a:(H.set b (.arr k' (aC+1) aj es'))[b]?=some (.arr k' (aC+1) aj es'):=hB i;refine⟨?_,?_,?_,?_,?_⟩
 ·rintro x _ ⟨fz,t,h⟩
  by_cases hx:x=b
  ·subst hx;rw[a]at h;cases h
  ·rw[c x hx]at h;exact⟨⟨fz,t,h⟩,by simp[Bd.at,hx]⟩
 ·rintro x _ ⟨fz,t,h⟩
  by_cases hx:x=b
  ·subst hx;rw[a]at h;cases h
  ·rw[c x hx]at h;exact⟨⟨fz,t,h⟩,by simp[Bd.at,hx]⟩
 ·rintro x _ ⟨fz,t,h⟩
  by_cases hx:x=b
  ·subst hx;rw[a]at h;cases h
  ·rw[c x hx]at h;exact⟨⟨fz,t,h⟩,by simp[Bd.at,hx]⟩
 ·intro x v z l f hi h;unfold fq at h
  by_cases hx:x=b
  ·subst hx;rw[a]at h;cases h;obtain⟨m,d,j⟩:=hi;simp only at d;rw[e]at d;cases d;simp only[Obj.has]at j;omega
  ·rw[c x hx]at h;exact⟨l,f,h,i0 _,Iff.rfl,fun _=>by simp[Bd.at,hx]⟩
 ·rintro x _ ⟨L,h⟩
  by_cases hx:x=b
  ·subst hx;rw[a]at h;cases h
  ·rw[c x hx]at h;exact⟨⟨L,h⟩,by simp[Bd.at,hx]⟩
theorem Bd.XW(β:Bd)(b:Nat):β.at b (β.au b) (β.cap b)=β:=by
 cases β with
 |mk au cap=>
  simp only[Bd.at,Bd.mk.injEq];constructor
  ·funext x;split
   ·rename_i h;rw[h]
   ·rfl
  ·funext x;split
   ·rename_i h;rw[h]
   ·rfl
theorem BZ{α:Type}(A M Z X:List α):(A++M++Z).take A.length++X++(A++M++Z).drop (A.length+M.length)=A++X++Z:=by
 rw[hH A M Z,List.take_left,<-hH,<-hD,List.drop_left]
theorem XA{c:Call}{s x:dk}(Y:o.op= .call c)(hc:c.callee= .builtin .append)(W:c.args.toList=[s,x])(bS:c.argTypes.size=2){H0:an}{K:aZ->Prop}
 (h:nW P (c.argTypes.getD 0 0) (c.argTypes.getD 1 0) H0 (ρ s) (ρ x) K):
 ∃e,K e/\bA P o ρ H0.length e/\(∀p∈e.aq,H0[p.1]?=some p.2)/\(∀p∈e.aM,p.1<H0.length/\p.2≠.hole):=by
 obtain⟨T,X,S⟩:∃T X,c.argTypes=#[T,X]:=by
  obtain⟨l,I⟩:∃l,l=c.argTypes.toList:=⟨_,rfl⟩
  have af:l.length=2:=by rw[I];simpa using bS
  match l,af with
  |[a,b],_=>exact⟨a,b,by apply b4;simp[<-I]⟩
 have B:s∈o.op.operands/\x∈o.op.operands:=by
  have bF:c.args=#[s,x]:=by apply b4;simpa using W
  rw[Y];simp[gy,Call.operands,hc,bF]
 have e1:c.argTypes.getD 0 0=T:=by rw[S];rfl
 have e2:c.argTypes.getD 1 0=X:=by rw[S];rfl
 rw[e1,e2]at h;unfold nW at h
 split at h
 case h_2=>exact h.elim
 rename_i sz g F hx;obtain⟨ag,a8,ak,h⟩:=h;obtain⟨e,i,F⟩:=kA F;obtain⟨z,a8⟩:=j1.1 a8;obtain⟨b2,bZ,z1,z2,z3,z4⟩:=qO a8;rw[F.qD]at z1 z4;rw[F.info]at z1;cases z1;have aU:bZ.cells.size=sz:=by
  obtain⟨_,i2,k1,k2⟩:=yl (v:=.p z) (w:=default) (ad:=fun _=>False) (β:=⟨id,id⟩) (H:=[]) z4 (by simp only[br];exact z3 _ _);rw[F.info]at k1;cases k1;have:=F.size;simp at k2;omega
 have bb:∀{aq:List (Nat×Obj)},(∀p∈dF H0 (ρ x),p∈aq)->(∀p∈aq,H0[p.1]?=some p.2)->g=[]->(∀(H:an)(w:dq)(ad ai:Nat->Prop)(β:Bd)(v:dg),bX P w ad β H ai->(∀p∈aq,H[p.1]?=some p.2)->aD P w ad β H (ρ s) v->∃p a b,v= .slice p a b/\a<=b)->
  bA P o ρ H0.length {v:=ρ s,aq}:=by
  intro aq bR av bT bP;subst bT;refine bA.same fun H w ad ai β ar f j aq=>?_;obtain⟨p,a,b,u,bE⟩:=bP H w ad ai β _ f aq (j s B.1).1;obtain⟨E,C,af,bB,bC⟩:=vX (abi hx (fun p u=>aq p (bR p u))) f (j x B.2).1 (j x B.2).2 ak;have bj:=bC w rfl 0 (i0 _);simp only[List.take_zero,ii]at bj;have R:=Wd F ag o.type (p:=p) (sLen:=a) (sCap:=b) _ bB bj bE;rw[<-S,<-u]at R;exact⟨_,yw Y hc W R,by rw[u];exact u▸(j s B.1).1,(j s B.1).2⟩
 have a9:∀l:List AV,l.isEmpty=true->l=[]:=fun l h=>by simpa using h
 split at h
 ·
  rename_i hs
  split at h
  ·rename_i G;refine⟨_,h,?_,nN,by simp⟩;exact bb (fun p u=>u) nN (a9 _ G) (fun H w ad ai β v _ _ A=>by rw[hs]at A;simp only[aD,aF]at A;exact⟨_,_,_,A,i0 _⟩)
  ·rename_i G;obtain⟨bo,h⟩:=h;refine⟨_,h,?_,nN,by simp⟩;intro H w ad ai β ar f j aq aE;have ah:H[H0.length]?=some .hole:=by simpa using aE 0 (by simp)
   have Q:=(j s B.1).1;rw[hs]at Q;simp only[aD,aF]at Q;have bq:0<g.length:=hX.2 (by simpa using G);obtain⟨cap,cells,E,D,ab,al,ac,am,ao,ap⟩:=yj Y hc W S F ag z2 aU f Q (olds:=[]) (ocss:=[]) rfl (iF.2 rfl) (by simp[ba]) (by simp[e9])
    (abi hx aq) (j x B.2).1 (j x B.2).2 ak (by omega) (by omega)
   obtain⟨q1,Z,aa⟩:=CJ (base:=H0.length) (k:=gk P T) (e:=e) (_o':=.hole) f ah uo.1 (fun q=>G (by simpa using q.2)) al ac am ao ap (fun h=>(uo.2 h).elim) (EF F.qD);simp only[ik,jp]at ab q1 Z aa;exact⟨_,_,_,_,ad,ab,.inl rfl,q1,Z,aa⟩
 ·
  rename_i full d hs;obtain⟨bG,h⟩:=h
  have Q:∀{H:an}{w:dq}{ad:Nat->Prop}{β:Bd}{v:dg},aD P w ad β H (ρ s) v->∃p c N,v= .slice p d.length c/\d.length<=c/\(full=true->c=d.length)/\Row P w ad β H sz (d.map .p) N/\
   (∀w':dq,w'.heap=w.heap->(e9 sz d.length v).run P w'=.ok N.flatten.toArray w'):=by
   intro H w ad β v A;rw[hs]at A;simp only[aD,aF]at A;obtain⟨au,off,cap,aj,E,v1,v2,v3,v4,v5,sp,bQ,rfl⟩:=A;rcases bQ with rfl|rfl
   case inr=>
    obtain rfl:d=[]:=hG.1 (by omega);exact⟨_,_,[],rfl,by simp,by simp,iF.2 rfl,fun w' _=>BQ⟩
   have aM:Row P w ad β H aj (d.map .p) E:=mq.2 v1;have bv:Row P w ad β H sz (d.map .p) E:=by
    by_cases bp:d.map AV.p=[]
    ·rw[bp]at aM⊢;rw[iF]at aM⊢;exact aM
    ·rw[<-tK aM bG bp];exact aM
   refine⟨_,_,E,rfl,v5,v4,bv,fun w' a7=>vi (by have:=(fV bv).2;simpa using this) (v3.same (by rw[a7]))⟩
  split at h
  ·rename_i G;refine⟨_,h,?_,nN,by simp⟩;exact bb (fun p u=>u) nN (a9 _ G) (fun H w ad ai β v _ _ A=>by obtain⟨p,c,_,C,af,_⟩:=Q A;exact⟨p,_,c,C,af⟩)
  ·rename_i G;obtain⟨hf,bo,h⟩:=h;refine⟨_,h,?_,nN,by simp⟩;intro H w ad ai β ar f j aq aE;have ah:H[H0.length]?=some .hole:=by simpa using aE 0 (by simp)
   have bq:0<g.length:=hX.2 (by simpa using G);obtain⟨p,cp,N,s1,s2,bW,bY,bz⟩:=Q (j s B.1).1;rw[s1]at bz;obtain⟨cap,cells,E,D,ab,al,ac,am,ao,ap⟩:=yj Y hc W S F ag z2 aU f s1 (olds:=d.map .p) (by simp) bY (jg _ _) (bz w.drew rfl)
    (abi hx aq) (j x B.2).1 (j x B.2).2 ak (by have:=bW hf;omega) (by omega)
   obtain⟨q1,Z,aa⟩:=CJ (base:=H0.length) (k:=gk P T) (e:=e) (_o':=.hole) f ah uo.1 (fun q=>G (by have:=q.2;simp at this;simp[this.2])) al ac am ao ap (fun h=>(uo.2 h).elim) (EF F.qD);simp only[hD,List.length_map]at Z aa;exact⟨_,_,_,_,ad,ab,.inl rfl,q1,Z,aa⟩
 ·
  rename_i b aC aj off len hs
  split at h
  case h_2=>exact h.elim
  rename_i k b3 b0 d a5;obtain⟨rfl,rfl,rfl,hlen,h⟩:=h;have av:∀p∈(b,Obj.arr k aC aj d)::dF H0 (ρ x),H0[p.1]?=some p.2:=by
   intro p u;rcases hQ.1 u with rfl|u
   ·exact a5
   ·exact nN p u
  have Q:∀{H:an}{w:dq}{ad ai:Nat->Prop}{β:Bd}{v:dg},bX P w ad β H ai->H[b]?=some (.arr k aC aj d)->aD P w ad β H (ρ s) v->
   (di k d/\v=.slice none 0 0/\len=0)\/(¬di k d/\v=.slice (some ⟨β.au b,off*aj,none⟩) len (β.cap b-off)/\
   ∃cs T E D,w.heap[β.au b]?=some (.cells cs T (0,0))/\Row P w ad β H aj d E/\cs.toList=E.flatten++D/\
   cs.size=β.cap b*aj/\d.length<=β.cap b/\(k=.exact->β.cap b=d.length)/\cK ad β ai (k== .frozen) b/\(k=.bytes->T=Gl.u8)):=by
   intro H w ad ai β v f t A;rw[hs]at A;simp only[aD,bO,bU]at A;obtain⟨_,v2,v3⟩:=A.2 k d t
   by_cases q:di k d
   ·exact .inl ⟨q,v2 q,by have:=q.2;subst this;simp at hlen;omega⟩
   ·rcases f.cO b _ t with hold|⟨cs,O,E,D,k1,k2,k3,k4,k5,k6,k7,k8⟩
    ·exact(q hold).elim
    ·exact .inr ⟨q,v3 q,cs,O,E,D,k1,k2,k3,k4,k5,k6,k7,k8.2⟩
  have holds:∀{H:an}{w:dq}{ad:Nat->Prop}{β:Bd}{cs:Array dg}{O:dl}{E:List (List dg)}{D:List dg},w.heap[β.au b]?=some (.cells cs O (0,0))->Row P w ad β H aj d E->cs.toList=E.flatten++D->
   ∃N,Row P w ad β H aj ((d.drop off).take len) N/\∀(w':dq)(n c:Nat),w'.heap=w.heap->(e9 aj len (.slice (some ⟨β.au b,off*aj,none⟩) n c)).run P w'=.ok N.flatten.toArray w':=by
   intro H w ad β cs O E D k1 k2 k3;obtain⟨a,m,z,g1,g2,g3,g4,g5⟩:=jV k2 off len hlen;refine⟨m,g2,fun w' n c a7=>vi (by have:=(fV g2).2;rw[this];congr 1;simp;omega) ?_⟩;have:=mg k1 (pre:=a.flatten) (xs:=m.flatten) (post:=z.flatten++D) (by rw[k3,g1];simp);rw[g3]at this;exact this.same (by rw[a7])
  split at h
  ·rename_i G;refine⟨_,h,?_,av,by simp⟩;refine bb (fun p u=>hK _ u) av (a9 _ G) (fun H w ad ai β v f aq A=>?_);rcases Q f (aq (b,_) (by simp)) A with⟨_,C,_⟩|⟨q,C,cs,O,E,D,af⟩
   ·exact⟨_,_,_,C,i0 _⟩
   ·exact⟨_,_,_,C,by omega⟩
  ·rename_i G;have bq:0<g.length:=hX.2 (by simpa using G);obtain⟨bo,h⟩:=h
   split at h
   ·exact h.elim
   ·
    split at h
    ·rename_i ax;refine⟨_,h,?_,av,by simpa using(hA.1 a5).1⟩;intro H w ad ai β ar f j aq _;have t:H[b]?=some (.arr .exact aC aj d):=aq (b,_) (by simp);rcases Q f t (j s B.1).1 with⟨q,_⟩|⟨q,C,cs,O,E,D,k1,k2,k3,k4,k5,k6,k7,k8⟩
     ·cases q.1
     obtain⟨M,V,bc,bd,be⟩:=vX (abi hx (fun p u=>aq p (hK _ u))) f (j x B.2).1 (j x B.2).2 ak;have aP:=be w rfl g.length (i0 _);rw[hS (by have:=(fV V).1;omega)]at aP;have bm:=k6 rfl;obtain⟨a,m,ae,g1,g2,g3,g4,g5⟩:=jV k2 (off+len) g.length ax;have ay:=(fV V).2;have aw:m.flatten.length=g.length*aj:=by have:=(fV g2).2;rw[this];congr 1;simp;omega
     have aQ:cs.toList=a.flatten++m.flatten++(ae.flatten++D):=by rw[k3,g1];simp
     have bl:a.flatten.length=off*aj+len*aj:=by rw[g3,i4]
     have bw:cs.size=a.flatten.length+m.flatten.length+(ae.flatten++D).length:=by
      have:=congrArg hU aQ;simp only[hD,cv]at this;rw[this,hD]
     have R:=JR F ag o.type (sLen:=len) (sCap:=β.cap b-off) _ bd k1 aP (wu V) (by omega) (by rw[ay,bw,bl,aw];exact Nat.le_add_right _ _);rw[<-S,<-C]at R;have aX:cs.toList.take (off*aj+len*aj)++M.flatten++cs.toList.drop (off*aj+len*aj+M.flatten.length)=a.flatten++M.flatten++(ae.flatten++D):=by
      rw[aQ,<-bl,ay,<-aw];exact BZ _ _ _ _
     rw[aX]at R;have aO:cC β H β (H.set b (.arr .exact aC aj (d.take (off+len)++g++d.drop (off+len+g.length)))):=pE t (.inr (.inl ⟨_,_,_,_,_,rfl,rfl,by simp;omega⟩));have aB:¬ad (β.au b)/\¬ai (β.au b):=by
      unfold cK at k7;rw[if_neg (by simp)]at k7;exact k7
     have a6:∀J,ad J->(w.setRow (β.au b) (a.flatten++M.flatten++(ae.flatten++D)).toArray).heap[J]?=w.heap[J]?:=fun J a2=>eb w _ J _ (fun a1=>aB.1 (a1▸a2));have hrefs:ba (aJ H) (d.take (off+len)++g++d.drop (off+len+g.length)):=by
      have bs:=dc.1 (f.refs b _ t);refine jU (jU ?_ bc) ?_
      ·rw[dc];exact fun v A=>bs v (hJ A)
      ·rw[dc];exact fun v A=>bs v (hN A)
     have aR:=mr t (o:=.arr .exact aC aj (d.take (off+len)++g++d.drop (off+len+g.length))) (fun _ h=>h);have a3:(d.take (off+len)++g++d.drop (off+len+g.length)).length=d.length:=by simp;omega
     have aL:=qM f t q (o':=.arr .exact aC aj (d.take (off+len)++g++d.drop (off+len+g.length))) (fun U=>by cases U.1) (fun _ h=>h) k1 (new:=(a.flatten++M.flatten++(ae.flatten++D)).toArray) aB aO
      (.inr ⟨_,O,a++M++ae,D,ed w _ _ _ O _ k1,by
       refine Row.mono (fun _ x=>x) a6 aO hrefs (lI.2 ⟨_,_,rfl,lI.2 ⟨_,_,rfl,g4,V⟩,g5⟩),by simp,by
       rw[<-k4,bw];simp only[h1,hD,ay,aw],by rw[a3];exact k5,fun _=>by rw[a3];exact bm,k7,(fun aS=>by cases aS),k8⟩) (ba.mono aR _ hrefs)
     refine⟨_,_,_,β,ad,yw Y hc W R,.inl rfl,aL,?_,?_⟩
     ·simp only[aD,bO,bU,bf,newAt,hO];refine⟨by simp[hv],fun J bh I=>?_⟩;unfold fq at I;rw[hB (hA.1 t).1]at I;cases I;exact⟨by rw[a3];omega,(fun U=>by cases U.1),fun _=>trivial⟩
     ·simp only[aG];exact⟨_,hB (hA.1 t).1,i0 _⟩
    ·rename_i ax;refine⟨_,h,?_,av,by simp⟩;intro H w ad ai β ar f j aq aE;have ah:H[H0.length]?=some .hole:=by simpa using aE 0 (by simp)
     have t:H[b]?=some (.arr .exact aC aj d):=aq (b,_) (by simp);rcases Q f t (j s B.1).1 with⟨q,_⟩|⟨q,C,cs,O,E,D,k1,k2,k3,k4,k5,k6,k7,k8⟩
     ·cases q.1
     have bm:=k6 rfl;obtain⟨N,aN,aV⟩:=holds k1 k2 k3;have bn:((d.drop off).take len).length=len:=by simp;omega
     obtain⟨cap,cells,bg,bx,ab,al,ac,am,ao,ap⟩:=yj Y hc W S F ag z2 aU f C (olds:=(d.drop off).take len) bn aN
      (by rw[dc];exact fun v A=>dc.1 (f.refs b _ t) v (hN (hJ A))) (aV w.drew _ _ rfl)
      (abi hx (fun p u=>aq p (hK _ u))) (j x B.2).1 (j x B.2).2 ak (by omega) (by omega)
     obtain⟨q1,Z,aa⟩:=CJ (base:=H0.length) (k:=gk P T) (e:=e) (_o':=.hole) f ah uo.1 (fun q=>G (by have:=q.2;simp at this;simp[this.2])) al ac am ao ap (fun h=>(uo.2 h).elim) (EF F.qD);rw[hD,bn]at Z aa;exact⟨_,_,_,_,ad,ab,.inl rfl,q1,Z,aa⟩
   ·
    rename_i bI bJ;obtain⟨rfl,bK,h⟩:=h;have aI:k≠.frozen:=fun e=>bI e;have aS:k≠.exact:=fun e=>bJ e;have b1:(k==AK.frozen)=false:=by simpa using aI
    refine⟨_,h,?_,av,by simpa using(hA.1 a5).1⟩;intro H w ad ai β ar f j aq _;have t:H[b]?=some (.arr k aC aj d):=aq (b,_) (by simp);have az:b<H.length:=(hA.1 t).1;have aT:(d.take len).length=len:=by simp;omega
    have bu:ba (aJ H) (d.take len):=by rw[dc];exact fun v A=>dc.1 (f.refs b _ t) v (hJ A)
    have a4:¬di k (d.take len++g):=fun U=>G (by have:=U.2;simp at this;simp[this.2]);have aR:=mr t (o:=.arr k (aC+1) aj (d.take len++g)) (fun v h=>by simp only[Obj.has]at h⊢;omega)
    have bi:∀(p:Option Addr)(aY:Nat)(N:List (List dg)),ar s= .slice p len aY->Row P w ad β H aj (d.take len) N->(e9 aj len (.slice p len aY)).run P w.drew= .ok N.flatten.toArray w.drew->aY<len+g.length->
     ∃n a0 w' aK aH,(dp ar o).run P w=.ok n w'/\(n=.value a0\/n=.skip/\a0=undef)/\
      b6 P ai ad w β H aH w' aK (H.set b (.arr k (aC+1) aj (d.take len++g)))/\aD P w' aH aK (H.set b (.arr k (aC+1) aj (d.take len++g))) (.sl b (aC+1) aj 0 (len+g.length)) a0/\
      aG (aJ (H.set b (.arr k (aC+1) aj (d.take len++g)))) (.sl b (aC+1) aj 0 (len+g.length)):=by
     intro p aY N C bM bL bH;obtain⟨cap,cells,bg,bx,ab,al,ac,am,ao,ap⟩:=yj Y hc W S F ag z2 aU f C (olds:=d.take len) aT bM bu bL
      (abi hx (fun p u=>aq p (hK _ u))) (j x B.2).1 (j x B.2).2 ak bH (by omega)
     have aO:=Mf (β:=β) (k':=k) (es':=d.take len++g) (au:=w.heap.size) (cap:=cap) t;have aL:b6 P ai ad w β H ad {w.drew with heap:=w.heap.push (.cells cells e)} (β.at b w.heap.size cap) (H.set b (.arr k (aC+1) aj (d.take len++g))):=by
      refine b6.set f az (fun y bV=>by simp[Bd.at,bV]) (fun _ y=>y) (fun _ y=>.inl y) (fun k hk=>by have:=f.bS k hk;simp;omega) (by simp)
       (fun k _ hk=>by simp[cx,jC hk]) (fun _=>.inl (by simp[Bd.at])) aO
       (.inr ⟨cells,e,bg,bx,by simp[Bd.at],Row.mono (fun _ y=>y) (fun k hk=>by have:=f.bS k hk;simp[cx,jC this]) aO ac al,am,by simp[Bd.at,ao],by simpa[Bd.at]using ap,(fun aA=>(aS aA).elim),by
        unfold cK;rw[if_neg (by simpa using aI)];simp only[Bd.at,if_true];exact⟨fun h=>i1 _ (f.bS _ h),fun h=>i1 _ (f.eh _ h)⟩,(fun aA=>(aI aA).elim),fun ah=>F.qD▸bK ah⟩)
       (ba.mono aR _ ac) (fun aN v C af=>by rw[t]at C;cases C;simp only[Obj.has]at af⊢;omega) (fun L bk=>by rw[t]at bk;cases bk)
     refine⟨_,_,_,_,ad,ab,.inl rfl,aL,?_,?_⟩
     ·simp only[aD,bO,bU];refine⟨by simp[hv],fun J bh I=>?_⟩;unfold fq at I;rw[hB az]at I;cases I;exact⟨by rw[hD,aT];omega,fun U=>(a4 U).elim,fun _=>by simp[Bd.at]⟩
     ·simp only[aG];exact⟨_,hB az,i0 _⟩
    simp only[bf,newAt,hO];rcases Q f t (j s B.1).1 with⟨q,C,rfl⟩|⟨q,C,cs,O,E,D,k1,k2,k3,k4,k5,k6,k7,k8⟩
    ·exact bi none 0 [] C (by simp[iF]) (by simp[e9]) (by omega)
    ·simp only[i9,js]at C
     by_cases ax:len+g.length<=β.cap b
     ·
      obtain⟨M,V,bc,bd,be⟩:=vX (abi hx (fun p u=>aq p (hK _ u))) f (j x B.2).1 (j x B.2).2 ak;have aP:=be w rfl g.length (i0 _);rw[hS (by have:=(fV V).1;omega)]at aP;obtain⟨a,m,ae,g1,g2,g3,g4,g5⟩:=jV k2 0 len hlen;have bD:a=[]:=by have:=(fV g4).1;simpa using this
      subst bD;have ay:=(fV V).2;have aw:m.flatten.length=len*aj:=by have:=(fV g2).2;rw[this];congr 1
      have aQ:cs.toList=m.flatten++(ae.flatten++D):=by rw[k3,g1];simp
      have bN:=Nat.mul_le_mul_right aj ax;rw[i4]at bN;have R:=JR F ag o.type (off:=0) (sLen:=len) (sCap:=β.cap b) _ bd k1 aP (wu V) ax (by rw[ay,k4];omega);rw[<-S,<-C]at R;obtain⟨aW,bt⟩:∃r,r=cs.toList.drop (len*aj+M.flatten.length):=⟨_,rfl⟩
      have aX:cs.toList.take (0+len*aj)++M.flatten++cs.toList.drop (0+len*aj+M.flatten.length)=(m++M).flatten++aW:=by
       rw[jp,<-bt];congr 1;rw[aQ,<-aw];simp
      rw[aX]at R;have aB:¬ad (β.au b)/\¬ai (β.au b):=by
       unfold cK at k7;rw[if_neg (by simpa using aI)]at k7;exact k7
      have aO:cC β H β (H.set b (.arr k (aC+1) aj (d.take len++g))):=by
       have:=Mf (β:=β) (k':=k) (es':=d.take len++g) (au:=β.au b) (cap:=β.cap b) t
       rwa [Bd.XW]at this
      have a6:∀J,ad J->(w.setRow (β.au b) ((m++M).flatten++aW).toArray).heap[J]?=w.heap[J]?:=fun J a2=>eb w _ J _ (fun a1=>aB.1 (a1▸a2));have hrefs:ba (aJ H) (d.take len++g):=jU bu bc;have aL:=qM f t q (o':=.arr k (aC+1) aj (d.take len++g)) a4 (fun v h=>by simp only[Obj.has]at h⊢;omega) k1 (new:=((m++M).flatten++aW).toArray) aB aO
       (.inr ⟨_,O,m++M,aW,ed w _ _ _ O _ k1,by
        refine Row.mono (fun _ x=>x) a6 aO hrefs (lI.2 ⟨_,_,rfl,?_,V⟩);simpa using g2,by simp,by
        rw[<-k4];simp only[h1,hD,hZ,ay,aw,bt,List.length_drop,cv,k4];omega,by rw[hD,aT];exact ax,(fun aA=>(aS aA).elim),k7,(fun h=>(aI h).elim),k8⟩) (ba.mono aR _ hrefs)
      refine⟨_,_,_,β,ad,yw Y hc W R,.inl rfl,aL,?_,?_⟩
      ·simp only[aD,bO,bU];refine⟨by simp[hv],fun J bh I=>?_⟩;unfold fq at I;rw[hB az]at I;cases I;exact⟨by rw[hD,aT];omega,fun U=>(a4 U).elim,fun _=>by simp⟩
      ·simp only[aG];exact⟨_,hB az,i0 _⟩
     ·obtain⟨N,aN,aV⟩:=holds k1 k2 k3;simp only[List.drop_zero,i9]at aN aV;exact bi _ _ N C aN (aV w.drew _ _ rfl) (by omega)
 ·exact h.elim
end
section
variable{P:dz}{w:dq}{ad ai:Nat->Prop}{β:Bd}{H:an}
variable{o:Oper}{ρ:dk->AV}{base:Nat}
def jh(bs:ByteArray):List Nat:=bs.data.toList.map (·.toNat)
theorem BT:∀{a b:List UInt8},a.map (·.toNat)=b.map (·.toNat)->a=b
 |[],[],_=>rfl
 |[],_::_,h=>by simp at h
 |_::_,[],h=>by simp at h
 |x::a,y::b,h=>by
  simp at h;rw[UInt8.toNat_inj.1 h.1,BT h.2]
theorem bytes_beq(a b:ByteArray):(a.toList==b.toList)=(jh a==jh b):=by
 rw[gc,gc];unfold jh
 by_cases h:a.data.toList=b.data.toList
 ·simp[h]
 ·have d:¬(a.data.toList.map (·.toNat)=b.data.toList.map (·.toNat)):=fun c=>h (BT c)
  rw[beq_eq_false_iff_ne.2 h,beq_eq_false_iff_ne.2 d]
theorem Jp:∀a b:List UInt8,g7 a b=jt (a.map (·.toNat)) (b.map (·.toNat))
 |[],[]=>rfl
 |_::_,[]=>rfl
 |[],_::_=>rfl
 |x::a,y::b=>by
  simp only[g7,hR,jt,Jp a b];congr 1
  ·congr 1
   by_cases h:x=y
   ·simp[h]
   ·have:¬x.toNat=y.toNat:=fun c=>h (UInt8.toNat_inj.1 c);rw[beq_eq_false_iff_ne.2 h,beq_eq_false_iff_ne.2 this]
theorem aJT{c:e8}{T j:dl}{x y:dk}{a b:List Nat}{K:PV->Prop}(g:o.op= .binOp c T x y j)(hx:ρ x= .p (.str a))(u:ρ y= .p (.str b))
 (h:qc c a b K)(aq:List (Nat×Obj)):∃v,K v/\bA P o ρ base {v:=.p v,aq}:=by
 have key:∀v,K v->(∀(w:dq)(ad:Nat->Prop)(s t:ByteArray),a=jh s->b=jh t->∃r,(ha c s t).run P w=.ok r w/\aF P w ad v r)->∃v,K v/\bA P o ρ base {v:=.p v,aq}:=by
  intro v q n;refine⟨v,q,bA.same fun H w ad ai β C B i _=>?_⟩;have e:=(i x (by simp[g,gy])).1;have f:=(i y (by simp[g,gy])).1;rw[hx]at e;rw[u]at f;simp only[aD,Ou]at e f;obtain⟨s,e1,e2⟩:=e;obtain⟨t,e3,e4⟩:=f;obtain⟨r,z,A⟩:=n w ad s t e2 e4;refine⟨r,?_,by simpa only[aD]using A,by simp[aG]⟩;simp only[dp,g,e1,e3];refine eX ?_;have l:(eqGuard c T x y (.string s) (.string t)).run P w=.ok () w:=by
   unfold eqGuard
   split<;>simp
  have k:(binOp c T (.string s) (.string t)).run P w=.ok r w:=by
   cases c<;>first|(simp[qc]at h;done)|exact z
  simp[l,k]
 have m:∀s t:ByteArray,a=jh s->b=jh t->g7 s.toList t.toList=jt a b/\(s.toList==t.toList)=(a==b):=by
  intro s t hs d;rw[bytes_beq,<-hs,<-d,Jp,gc,gc];exact⟨by rw[hs,d];rfl,rfl⟩
 cases c<;>simp only[qc]at h
 case add=>
  refine key _ h.2 fun w ad s t hs d=>⟨.string (s++t),run_string_add_sum w s t ?_,?_⟩
  ·have e:a.length=s.size:=by rw[hs];simp[jh]
   have f:b.length=t.size:=by rw[d];simp[jh]
   omega
  ·rw[Ou];exact⟨_,rfl,by rw[hs,d];simp[jh,ByteArray.data_append]⟩
 case eql|neq|lss|leq|gtr|geq=>
  refine key _ h fun w ad s t hs d=>?_;obtain⟨e1,e2⟩:=m s t hs d;exact⟨_,by simp only[ha,e1,e2];rfl,by simp[aF]⟩
theorem U7{T:dl}(h:rD P T=true):P.underlying T=some .bool:=by
 unfold rD at h
 split at h
 ·assumption
 ·simp at h
theorem Jg{T:dl}{a b:dg}{r:Bool}{w:dq}(h:(g0 T a b).run P w= .ok r w)(d:(∃x,a= .bool x)\/(∃x,a= .agg x)\/(∃p n c,a= .slice p n c)\/(∃m,a= .map m)\/a= .nilFunc\/(∃f x y,a= .func f x y)\/(∃p,a= .pointer p)\/a= .nilIface):
 (binOp .eql T a b).run P w=.ok (.bool r) w/\(binOp .neq T a b).run P w=.ok (.bool !r) w:=by
 rcases d with⟨x,rfl⟩|⟨x,rfl⟩|⟨p,n,c,rfl⟩|⟨m,rfl⟩|rfl|⟨f,x,y,rfl⟩|⟨p,rfl⟩|rfl
 all_goals (constructor<;>(unfold binOp;simp[h]))
def jD.isAgg:jD->Bool
 | .agg _=>true
 |_=>false
theorem X0{T:dl}{t:jD}(hk:kindOf P T=t)(a:t≠.bad)(w:dq):(isAgg T).run P w=.ok t.isAgg w:=by
 unfold kindOf at hk;cases hu:P.underlying T with
 |none=>rw[hu]at hk;simp at hk;exact(a hk.symm).elim
 |some d=>
  rw[hu]at hk;simp only[isAgg,hm,db hu,hl];cases d<;>simp only at hk<;>(split at hk<;>first|(subst hk;rfl)|exact(a hk.symm).elim)
theorem vQ{F:dl}{v:PV}{pre c post:List dg}{cs:Array dg}(hk:kindOf P F=aL v)(b:aW P w ad v c)(e:cs.toList=pre++c++post):
 ∃x,(part F cs pre.length).run P w=.ok x w/\aF P w ad v x:=by
 obtain⟨j,i,f,g⟩:=yl (v:=.p v) (β:=⟨id,id⟩) (H:=[]) (w:=w) (ad:=ad) hk (by simpa only[br]using b);have d:=(pD b).2;have a:=X0 hk d w;cases hs:aL v with
 |bad=>exact(d hs).elim
 |leaf=>
  rw[hs]at a;obtain⟨x,rfl,hx⟩:=(tL hs c).1 b;refine⟨x,?_,hx⟩;have:cs[pre.length]?=some x:=by rw[<-b5,e];simp
  simp[part,a,this,jD.isAgg]
 |agg u=>
  rw[hs]at a;refine⟨.agg c.toArray,?_,(wx hs c).1 b⟩;have h:(sizeOf F).run P w=.ok c.length w:=by simp[sizeOf,typeInfo,f,g]
  have:cs.extract pre.length (pre.length+c.length)=c.toArray:=by
   apply b4;rw[Array.toList_extract,e];simp[List.extract_eq_take_drop]
  simp[part,a,h,this,jD.isAgg]
theorem CH{n:Nat}{b:List Nat}{v:PV}{vs:List PV}{a:List (List dg)}(h:bm P w ad (n::b) (v::vs) a):∃c cs,a=c::cs/\aW P w ad v c/\c.length=n/\bm P w ad b vs cs:=by
 simpa only[bm]using h
theorem Jn{eqF:dl->PV->PV->Option Bool}{d:Nat}(B:∀F a b r,eqF F a b=some r->kindOf P F=aL a->kindOf P F=aL b->∀x y,aF P w ad a x->aF P w ad b y->(gE d F x y).run P w= .ok r w){X Y:Array dg}:
 ∀(fs:List e7)(l:List Nat)(j k:List PV)(r:Bool)(h m:List dg)(o p:List (List dg)),mH P eqF (fs.map (·.type)) j k=some r->fs.all (fun f=>f.name != "_")=true->
 (∀(i:Nat)(f:e7),fs[i]?=some f->f.offset=h.length+(l.take i).sum)->bm P w ad l j o->bm P w ad l k p->h.length=m.length->
 X.toList=h++o.flatten->Y.toList=m++p.flatten->(g8 d X Y fs).run P w=.ok r w
 |[],l,j,k,r,h,m,o,p,e,_,_,_,_,_,_,_=>by
  cases j<;>cases k<;>simp[mH]at e;subst e;simp[g8]
 |f::fs,l,j,k,r,h,m,o,p,e,q,v,hx,K,A,t,hY=>by
  cases j with
  |nil=>simp[mH]at e
  |cons a j=>
   cases k with
   |nil=>simp[mH]at e
   |cons b k=>
    cases l with
    |nil=>simp[bm]at hx
    |cons n l=>
     simp only[hR,mH]at e
     split at e
     case isFalse=>simp at e
     rename_i hk
     split at e
     case h_2=>simp at e
     rename_i M N D E;simp at e;subst e;obtain⟨c,cs,rfl,hc,u,J⟩:=CH hx;obtain⟨c',s,rfl,G,H,L⟩:=CH K;simp only[List.all_cons,da,bne_iff_ne]at q;have z:f.offset=h.length:=by simpa using v 0 f (by simp)
     obtain⟨x,C,Q⟩:=vQ hk.1 hc (pre:=h) (post:=cs.flatten) (cs:=X) (by rw[t];simp);obtain⟨y,y1,y2⟩:=vQ hk.2 G (pre:=m) (post:=s.flatten) (cs:=Y) (by rw[hY];simp);have e1:=B _ _ _ _ D hk.1 hk.2 x y Q y2;rw[<-z]at C;rw[<-A,<-z]at y1;have O:=Jn B fs l j k N (h++c) (m++c') cs s E q.2 (by
      intro i g I;have:=v (i+1) g (by simpa using I);rw[this,List.take_succ_cons,List.sum_cons,hD,u];omega) J L (by simp[A,u,H]) (by rw[t];simp) (by rw[hY];simp)
     simp only[g8,q.1,ne_eq,not_false_eq_true,if_true,hm,C,y1,e1,hl];cases M with
     |false=>simp
     |true=>simpa using O
theorem CO:∀(n:Nat)(T:dl)(v v':PV)(r:Bool),ja P n T v v'=some r->∀x y,aF P w ad v x->aF P w ad v' y->∀d,n<=d->(gE d T x y).run P w=.ok r w
 |0,_,_,_,_,h,_,_,_,_,_,_=>by simp[ja]at h
 |n+1,T,v,v',r,h,x,y,hx,g,d,J=>by
  obtain⟨d,rfl⟩:∃e,d=e+1:=⟨d-1,by omega⟩
  unfold ja at h
  split at h
  ·rename_i a b c;simp at h;subst h;simp only[aF]at hx g;subst hx;subst g;simp[gE,db c]
  ·rename_i k0 k a K b c
   split at h
   case isFalse=>simp at h
   rename_i hk;subst hk;simp at h;subst h;simp only[aF]at hx g;subst hx;subst g;exact run_equalIn_int w d T k k0 a b c
  ·rename_i a b c;simp at h;subst h;simp only[aF]at hx g;obtain⟨s,rfl,hs⟩:=hx;obtain⟨t,rfl,B⟩:=g;rw[run_equalIn_string w d T s t c,bytes_beq,hs,B];rfl
  ·rename_i fs u E u' G c
   split at h
   case isFalse=>simp at h
   rename_i hc;obtain⟨hk,rfl,A,q⟩:=hc;simp only[aF]at hx g;obtain⟨l,o,k1,k2,rfl⟩:=hx;obtain⟨C,p,k3,k4,rfl⟩:=g;rw[k1]at k3;cases k3;obtain⟨I,C,s1,s2,L,m,M,D⟩:=vo (P:=P) (T:=T) (u:=u') (n:=fs.size) (by unfold fg;rw[hk,c]);rw[c]at s1;cases s1;rw[k1]at m;cases m;have j:P.fieldsOf T=fs:=by simp[hj,c]
   rw[run_equalIn_struct w d T _ _ (by rw[j];exact c) A,j];refine Jn (eqF:=ja P n) (fun F a b r z _ _ x y hx g=>CO n F a b r z x y hx g d (by omega)) fs.toList l E G r [] [] o p h q ?_ k2 k4 rfl (by simp) (by simp);intro i f hf;have hi:i<fs.size:=by
    have:=(hA.1 hf).1;simpa using this
   obtain⟨H,g1,g2,_⟩:=D i hi;rw[b5,g1]at hf;cases hf;simpa using g2
  ·simp at h
end
section
variable{P:dz}{w:dq}{ad ai:Nat->Prop}{β:Bd}{H:an}
variable{o:Oper}{ρ:dk->AV}{base:Nat}
theorem DZ{d:e8}{T C:dl}{x y:dk}{r:Bool}{K:PV->Prop}{l:List (Nat×Obj)}(k:o.op= .binOp d T x y C)
 (D:d=.eql/\K (.bool r)\/d=.neq/\K (.bool !r))
 (I:∀(H:an)(w:dq)(ad ai:Nat->Prop)(β:Bd)(a b:dg),bX P w ad β H ai->(∀p∈l,H[p.1]?=some p.2)->aD P w ad β H (ρ x) a->aD P w ad β H (ρ y) b->(g0 T a b).run P w=.ok r w/\
  ((∃x,a=.bool x)\/(∃x,a=.agg x)\/(∃p n c,a=.slice p n c)\/(∃m,a=.map m)\/a=.nilFunc\/(∃f x y,a=.func f x y)\/(∃p,a=.pointer p)\/(a=.nilIface/\mJ y=true))/\(∀u v,a=.agg u->b=.agg v->P.eqGuardType P.depth T=false)):
 ∃v,K v/\bA P o ρ base {v:=.p v,aq:=l}:=by
 have key:∀v,K v->(∀(w:dq)(a b:dg),(g0 T a b).run P w= .ok r w->((∃x,a= .bool x)\/(∃x,a= .agg x)\/(∃p n c,a= .slice p n c)\/(∃m,a= .map m)\/a= .nilFunc\/(∃f x y,a= .func f x y)\/(∃p,a= .pointer p)\/a= .nilIface)->
  ∃q,v=.bool q/\(binOp d T a b).run P w=.ok (.bool q) w)->∃v,K v/\bA P o ρ base {v:=.p v,aq:=l}:=by
  intro v J hq;refine⟨v,J,bA.same fun H w ad ai β s G t aq=>?_⟩;obtain⟨L,z,A⟩:=I H w ad ai β _ _ G aq (t x (by simp[k,gy])).1 (t y (by simp[k,gy])).1;obtain⟨q,rfl,F⟩:=hq w _ _ L (by rcases z with h|h|h|h|h|h|h|h<;>simp[h]);refine⟨.bool q,?_,by simp[aD,aF],by simp[aG]⟩;simp only[dp,k];refine eX ?_;have E:(eqGuard d T x y (s x) (s y)).run P w=.ok () w:=by
   rcases z with⟨p,e⟩|⟨p,e⟩|⟨p,n,c,e⟩|⟨m,e⟩|e|⟨f,M,N,e⟩|⟨p,e⟩|⟨e,hc⟩
   all_goals rw[e]at A⊢
   case inr.inl=>
    cases hy:s y with
    |agg B=>
     exact run_eqGuard_agg w d T x y p B (A p B rfl hy)
    |_=>cases d<;>rfl
   case inr.inr.inr.inr.inr.inr.inr=>
    cases y<;>simp[mJ]at hc;unfold eqGuard;cases d<;>simp<;>(split<;>simp_all)
   all_goals (cases d<;>rfl)
  simp[E,F]
 rcases D with⟨rfl,j⟩|⟨rfl,j⟩
 ·exact key _ j fun w a b g i=>⟨_,rfl,(Jg g i).1⟩
 ·exact key _ j fun w a b g i=>⟨_,rfl,(Jg g i).2⟩
theorem zg(T:dl)(a b:dg):∃d,9<=d+1/\g0 T a b=gE (d+1) T a b:=⟨9999,by omega,rfl⟩
theorem Ks{T:dl}{c:Bool}{b:AV}{k:uY}(h:dE P T c b=some k):
 (k=.ptr/\b=.p .dM/\∃e,P.underlying T=some (.pointer e))\/(k=.slice/\b=.p .aP/\∃e,P.underlying T=some (.slice e))\/
 (k=.map/\b=.p .fk/\∃e f,P.underlying T=some (.map e f))\/(k=.func/\b=.p .gQ/\∃e f g,P.underlying T=some (.func e f g))\/(k=.iface/\b=.p .gB/\c=true/\∃m,P.underlying T=some (.interface m)):=by
 unfold dE at h
 split at h<;>first
  |(split at h
    ·rename_i a;simp at h;subst h;simp[a]
    ·simp at h)
  |simp at h
theorem aJB{T:dl}{c:Bool}{H0:an}{a b:AV}{r:Bool}{k:uY}(hk:dE P T c b=some k)(h:cW H0 k a=some r){l s:dg}(aq:∀p∈dF H0 a,H[p.1]?=some p.2)(i:aD P w ad β H a l)(C:aD P w ad β H b s):
 (g0 T l s).run P w=.ok r w/\((∃x,l=.bool x)\/(∃x,l=.agg x)\/(∃p n c,l=.slice p n c)\/(∃m,l=.map m)\/l=.nilFunc\/(∃f x y,l=.func f x y)\/(∃p,l=.pointer p)\/(l=.nilIface/\c=true))/\(∀u v,l=.agg u->s=.agg v->P.eqGuardType P.depth T=false):=by
 obtain⟨d,_,I⟩:=zg T l s;rw[I];rcases Ks hk with⟨rfl,rfl,e,j⟩|⟨rfl,rfl,e,j⟩|⟨rfl,rfl,e,f,j⟩|⟨rfl,rfl,e,f,g,j⟩|⟨rfl,rfl,G,m,j⟩
 all_goals simp only[aD,aF]at C
 all_goals subst C
 ·cases a<;>simp only[cW]at h
  case p v=>
   cases v<;>simp only at h<;>simp at h
   all_goals subst h
   all_goals simp only[aD,aF]at i
   ·subst i;simp[gE,db j]
   ·obtain⟨_,_,_,_,_,_,rfl⟩:=i;simp[gE,db j]
  case ptr B path=>
   simp only[aD,bO,bU]at i;obtain⟨_,_,_,_,rfl,_⟩:=i
   split at h
   ·simp at h;subst h;simp[gE,db j]
   ·simp at h
  all_goals simp at h
 ·cases a<;>simp only[cW]at h
  case p v=>
   cases v
   case seq o=>
    cases o with
    |nil=>simp at h
    |cons e o=>
     simp at h;subst h;simp only[aD,aF]at i;rcases i with⟨J,_⟩|⟨_,_,_,_,_,_,_,_,_,_,_,rfl⟩
     ·cases J
     ·simp[gE,db j]
   all_goals simp only at h
   all_goals simp at h
   all_goals subst h
   all_goals simp only[aD,aF]at i
   ·subst i;simp[gE,db j]
   ·obtain⟨_,_,_,_,_,_,_,_,_,_,_,_,rfl⟩:=i;simp[gE,db j]
  case sl B aC aj off len=>
   simp only[aD,bO,bU]at i;simp only[dF]at aq
   split at h
   case h_2=>simp at h
   rename_i A M L o t;rw[t]at aq;have z:=aq _ (h0.2 rfl)
   split at h
   case isFalse=>simp at h
   rename_i hc;obtain⟨rfl,rfl⟩:=hc;obtain⟨_,E,F⟩:=i.2 A o z
   by_cases q:di A o
   ·rw[E q];have:r=true:=by simp at h;rw[<-h];simp[q.1,q.2]
    subst this;simp[gE,db j]
   ·rw[F q];have:r=false:=by
     simp at h;rw[<-h];unfold di at q
     by_cases D:A.gr=true
     ·have K:o≠[]:=fun h=>q ⟨D,h⟩;simp[K]
     ·simp[D]
    subst this;simp[gE,db j]
  all_goals simp at h
 ·cases a<;>simp only[cW]at h
  case p v=>
   cases v<;>simp only at h<;>simp at h
   all_goals subst h
   all_goals simp only[aD,aF]at i
   ·subst i;simp[gE,db j]
   ·obtain⟨_,_,_,_,_,_,rfl⟩:=i;simp[gE,db j]
  case map B=>
   simp only[aD,bO,bU]at i;simp only[dF]at aq
   split at h
   case h_2=>simp at h
   rename_i fz o t;rw[t]at aq;have z:=aq _ (h0.2 rfl);rw[i.2.1 ⟨_,_,z⟩];simp at h;subst h;simp[gE,db j]
  all_goals simp at h
 ·cases a<;>simp only[cW]at h
  case p v=>
   cases v<;>simp only at h<;>simp at h
   all_goals subst h
   all_goals simp only[aD,aF]at i
   ·obtain⟨_,_,_,_,rfl⟩:=i;simp[gE,db j]
   ·subst i;simp[gE,db j]
  case func f first iI=>
   simp only[aD]at i;obtain⟨_,_,_,_,rfl⟩:=i;simp at h;subst h;simp[gE,db j]
  all_goals simp at h
 ·cases a<;>simp only[cW]at h
  case p v=>
   cases v<;>simp only at h<;>simp at h
   all_goals subst h
   all_goals simp only[aD,aF]at i
   subst i;simp[gE,db j,G]
  all_goals simp at h
theorem aJK{i:e8}{T s:dl}{x y:dk}{K:PV->Prop}{H0:an}(j:o.op= .binOp i T x y s)(h:kV P i T (mJ y) H0 (ρ x) (ρ y) K):
 ∃v,K v/\bA P o ρ base {v:=.p v,aq:=dF H0 (ρ x)}:=by
 unfold kV at h
 split at h
 ·rename_i k a C b hx g;exact aJO j hx g h.1 h.2 _
 ·rename_i a b hx g;exact aJT j hx g h _
 ·rename_i a b hx g;obtain⟨z,h⟩:=h;have m:=U7 z;refine DZ (r:=a==b) j ?_ ?_
  ·split at h
   ·exact .inl ⟨rfl,h⟩
   ·exact .inr ⟨rfl,h⟩
   ·exact h.elim
  ·intro H w ad ai β n q e aq f c;rw[hx]at f;rw[g]at c;simp only[aD,aF]at f c;subst f;subst c;obtain⟨d,_,l⟩:=zg T (.bool a) (.bool b);rw[l];exact⟨by simp[gE,db m],.inl ⟨_,rfl⟩,fun u v m _=>by cases m⟩
 ·rename_i u fs u' t hx g;obtain⟨B,h⟩:=h;obtain⟨r,e,c⟩:∃r,ja P 9 T (.st u fs) (.st u' t)=some r/\(i=.eql/\K (.bool r)\/i=.neq/\K (.bool !r)):=by
   split at h
   ·rename_i r e;exact⟨r,e,.inl ⟨rfl,h⟩⟩
   ·rename_i r e;exact⟨r,e,.inr ⟨rfl,h⟩⟩
   ·exact h.elim
  refine DZ (r:=r) j c ?_;intro H w ad ai β n q _ aq f c;rw[hx]at f;rw[g]at c;simp only[aD]at f c;refine⟨?_,?_,fun u v _ _=>by simpa[sF]using B⟩
  ·obtain⟨d,A,l⟩:=zg T n q;rw[l];exact CO 9 T _ _ r e _ _ f c (d+1) A
  ·simp only[aF]at f;obtain⟨_,_,_,_,rfl⟩:=f;exact .inr (.inl ⟨_,rfl⟩)
 ·rename_i hx g
  split at h
  case h_2=>exact h.elim
  rename_i k hk;obtain⟨r,e,c⟩:∃r,cW H0 k (ρ x)=some r/\(i=.eql/\K (.bool r)\/i=.neq/\K (.bool !r)):=by
   split at h
   ·rename_i r e;exact⟨r,e,.inl ⟨rfl,h⟩⟩
   ·rename_i r e;exact⟨r,e,.inr ⟨rfl,h⟩⟩
   ·exact h.elim
  exact DZ (r:=r) j c fun H w ad ai β n q _ aq f c=>aJB hk e aq f c
end
section
variable{P:dz}{w:dq}{ad ai:Nat->Prop}{β:Bd}{H:an}
variable{o:Oper}{ρ:dk->AV}{base:Nat}
theorem n9{c:dk->dg}:∀(l:List dk),(∀x∈l,aD P w ad β H (ρ x) (c x)/\aG (aJ H) (ρ x))->bJ P w ad β H (l.map ρ) (l.map c)/\ba (aJ H) (l.map ρ)
 |[],_=>by simp[bJ,ba]
 |x::l,h=>by
  have a:=h x (by simp);have b:=n9 l (fun y d=>h y (by simp[d]));simp only[hR,bJ,ba];exact⟨⟨_,_,rfl,a.1,b.1⟩,a.2,b.2⟩
theorem yY{H0:an}:∀(l:List AV){j:List PV}{aq aM:List (Nat×Obj)}{H:an}{ad:Nat->Prop}{vs:List dg},fO H0 l=some (j,aq,aM)->bX P w ad β H ai->bJ P w ad β H l vs->ba (aJ H) l->
 (∀p∈aq,∃f fz t,p.2=.box fz t/\H[p.1]?=some (.box f t))->∃aH,b6 P ai ad w β H aH w β (bf H aM)/\bL P w aH j vs/\∀p∈aM,p.1<H0.length/\p.2≠.hole
 |[],j,aq,aM,H,ad,vs,h,i,e,_,_=>by
  simp[fO]at h;obtain⟨rfl,rfl,rfl⟩:=h;simp only[bJ]at e;exact⟨ad,b6.refl i,by simpa[bL]using e,by simp⟩
 |a::l,j,aq,aM,H,ad,vs,h,i,e,d,m=>by
  simp only[bJ]at e;obtain⟨y,x,rfl,n,u⟩:=e;simp only[ba]at d;cases a with
  |p v=>
   simp only[fO]at h
   split at h
   case h_2=>simp at h
   rename_i G B E k;simp at h;obtain⟨rfl,rfl,rfl⟩:=h;obtain⟨aH,q1,o,q⟩:=yY l k i u d.2 m;simp only[aD]at n;exact⟨aH,q1,by simp only[bL];exact⟨y,x,rfl,aF.mono q1.bS (fun _ _=>rfl) _ _ n,o⟩,q⟩
  |ptr b path=>
   cases path with
   |cons _ _=>simp[fO]at h
   |nil=>
    simp only[fO]at h
    split at h
    case h_2=>simp at h
    rename_i fz t G B E C k;simp at h;obtain⟨rfl,rfl,rfl⟩:=h;obtain⟨f,J,K,e1,e2⟩:=m (b,.box fz (.p t)) (by simp);cases e1;have D:lA H (.ptr b [])=some (.cq t,H.set b (.box true (.p t))):=by
     simp only at e2;simp[lA,e2,lC]
    obtain⟨I,g,F⟩:=Ld D i n d.1;have A:b<H.length:=(hA.1 e2).1;obtain⟨z,q1,o,q⟩:=yY l k g.rel (bJ.mono g.bS (fun _ _=>rfl) g.step _ _ d.2 u) (ba.mono g.fa _ d.2) (by
     intro p c;obtain⟨f2,r,t2,g1,g2⟩:=m p (by simp[c])
     by_cases s:b=p.1
     ·rw[<-s]at g2⊢;simp only at e2;rw[e2]at g2;cases g2;exact⟨true,r,_,g1,by rw[hB A]⟩
     ·exact⟨f2,r,t2,g1,by rw[hV s];exact g2⟩)
    refine⟨z,by simpa only[bf]using g.trans q1,?_,?_⟩
    ·simp only[bL];exact⟨y,x,rfl,aF.mono q1.bS (fun _ _=>rfl) _ _ F,o⟩
    ·intro p c;rcases hQ.1 c with rfl|c
     ·exact⟨(hA.1 C).1,by simp⟩
     ·exact q p c
  |_=>simp[fO]at h
theorem V6{f:ei}{fi ca:Array dk}(E:o.op= .makeFunc (.func f) fi ca):
 (∀a b,eO (fi.toList.map ρ)=some a->eO (ca.toList.map ρ)=some b->bA P o ρ base {v:=.p (.func f a b)})/\
 bA P o ρ base {v:=.func f (fi.toList.map ρ) (ca.toList.map ρ)}/\
 (∀(H0:an) a b aq aM,fO H0 (fi.toList.map ρ)=some (a,[],[])->fO H0 (ca.toList.map ρ)=some (b,aq,aM)->bA P o ρ base {v:=.p (.func f a b),aq,aM}/\(∀p∈aq,H0[p.1]?=some p.2)/\(∀p∈aM,p.1<H0.length/\p.2≠.hole)):=by
 have g:∀x,x∈fi.toList\/x∈ca.toList->x∈o.op.operands:=by
  intro x hx;rw[E];simp only[gy,Array.mem_append];simpa using hx
 have u:∀(c:dk->dg)(w:dq),(dp c o).run P w=.ok (.value (.func (.func f) (fi.toList.map c).toArray (ca.toList.map c).toArray)) w:=by
  intro c w;simp only[dp,E];refine eX ?_;have j:(fi.toList.map c).toArray=fi.map c:=by apply b4;simp
  have k:(ca.toList.map c).toArray=ca.map c:=by apply b4;simp
  rw[j,k];simp[Instr.makeFunc]
 refine⟨?_,?_,?_⟩
 ·intro a b s m;refine bA.same fun H w ad ai β c z e _=>⟨_,u c w,?_,by simp[aG]⟩
  obtain⟨j,_⟩:=n9 fi.toList (fun x hx=>e x (g x (.inl hx)));obtain⟨k,_⟩:=n9 ca.toList (fun x hx=>e x (g x (.inr hx)));rw[mn s]at j;rw[mn m]at k;simp only[aD,aF];exact⟨_,_,jI.1 j,jI.1 k,rfl⟩
 ·refine bA.same fun H w ad ai β c z e _=>⟨_,u c w,?_,?_⟩
  ·simp only[aD];exact⟨_,_,(n9 fi.toList (fun x hx=>e x (g x (.inl hx)))).1,(n9 ca.toList (fun x hx=>e x (g x (.inr hx)))).1,rfl⟩
  ·simp only[aG];exact⟨(n9 fi.toList (fun x hx=>e x (g x (.inl hx)))).2,(n9 ca.toList (fun x hx=>e x (g x (.inr hx)))).2⟩
 ·intro H0 a b aq aM s m;have D:∀p∈aq,H0[p.1]?=some p.2/\∃fz t,p.2=.box fz t:=by
   have:∀(l:List AV)(b:List PV)(aq aM:List (Nat×Obj)),fO H0 l=some (b,aq,aM)->∀p∈aq,H0[p.1]?=some p.2/\∃fz t,p.2=.box fz t:=by
    intro l
    induction l with
    |nil=>intro b aq aM h;simp[fO]at h;obtain⟨rfl,rfl,rfl⟩:=h;simp
    |cons x l q=>
     intro b aq aM h;cases x with
     |p v=>
      simp only[fO]at h
      split at h
      case h_2=>simp at h
      rename_i B n A i;simp at h;obtain⟨rfl,rfl,rfl⟩:=h;exact q _ _ _ i
     |ptr J path=>
      cases path with
      |cons _ _=>simp[fO]at h
      |nil=>
       simp only[fO]at h
       split at h
       case h_2=>simp at h
       rename_i fz t B n A y i;simp at h;obtain⟨rfl,rfl,rfl⟩:=h;intro p d;rcases hQ.1 d with rfl|d
       ·exact⟨y,_,_,rfl⟩
       ·exact q _ _ _ i p d
     |_=>simp[fO]at h
   exact this _ _ _ _ m
  have K:∀p∈aM,p.1<H0.length/\p.2≠.hole:=by
   have:∀(l:List AV)(b:List PV)(aq aM:List (Nat×Obj)),fO H0 l=some (b,aq,aM)->∀p∈aM,p.1<H0.length/\p.2≠.hole:=by
    intro l
    induction l with
    |nil=>intro b aq aM h;simp[fO]at h;obtain⟨rfl,rfl,rfl⟩:=h;simp
    |cons x l q=>
     intro b aq aM h;cases x with
     |p v=>
      simp only[fO]at h
      split at h
      case h_2=>simp at h
      rename_i B n A i;simp at h;obtain⟨rfl,rfl,rfl⟩:=h;exact q _ _ _ i
     |ptr J path=>
      cases path with
      |cons _ _=>simp[fO]at h
      |nil=>
       simp only[fO]at h
       split at h
       case h_2=>simp at h
       rename_i fz t B n A y i;simp at h;obtain⟨rfl,rfl,rfl⟩:=h;intro p d;rcases hQ.1 d with rfl|d
       ·exact⟨(hA.1 y).1,by simp⟩
       ·exact q _ _ _ i p d
     |_=>simp[fO]at h
   exact this _ _ _ _ m
  refine⟨?_,fun p d=>(D p d).1,K⟩;intro H w ad ai β c z e n _;obtain⟨j,N⟩:=n9 fi.toList (fun x hx=>e x (g x (.inl hx)));obtain⟨k,G⟩:=n9 ca.toList (fun x hx=>e x (g x (.inr hx)));obtain⟨O,r,L,_⟩:=yY _ s z j N (by simp);simp only[bf]at r;obtain⟨I,q1,M,_⟩:=yY _ m r.rel (bJ.mono r.bS (fun _ _=>rfl) r.step _ _ G k) G (by
   intro p d;obtain⟨_,fz,t,F⟩:=D p d;have C:=n p d;rw[F]at C;exact⟨fz,fz,t,F,C⟩)
  simp only[newAt,hO];refine⟨_,_,w,β,I,u c w,.inl rfl,r.trans q1,?_,by simp[aG]⟩;simp only[aD,aF];exact⟨_,_,bL.mono q1.bS (fun _ _=>rfl) _ _ L,M,rfl⟩
theorem B2{x:dk}(d:o.op=.nilCheck x)(h:(∃b p,ρ x=.ptr b p)\/(∃b v e i p,ρ x=.b8 b v e i p)\/∃t,ρ x=.p (.cq t)):bA P o ρ base {v:=ρ x}:=by
 refine bA.same fun H w ad ai β f l k aq=>?_;have c:=k x (by simp[d,gy]);refine⟨f x,?_,c⟩;have j:∃a,f x=.pointer (some a):=by
  rcases h with⟨b,p,hx⟩|⟨b,v,e,i,p,hx⟩|⟨t,hx⟩
  ·have c:=c.1;rw[hx]at c;simp only[aD,bO,bU]at c;obtain⟨_,_,_,_,h,_⟩:=c;exact⟨_,h⟩
  ·have c:=c.1;rw[hx]at c;simp only[aD,bO,bU]at c;obtain⟨_,_,_,_,h,_⟩:=c;exact⟨_,h⟩
  ·have c:=c.1;rw[hx]at c;simp only[aD,aF]at c;obtain⟨_,_,_,_,_,_,h⟩:=c;exact⟨_,h⟩
 obtain⟨a,g⟩:=j;simp[dp,d,g]
end
end Go.ah
