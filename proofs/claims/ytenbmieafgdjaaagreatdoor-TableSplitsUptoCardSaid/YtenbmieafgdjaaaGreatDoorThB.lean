import Derived.Test.YtenbmieafgdjaaaGreatDoorThA
import Derived.RangeFuncRecord
import Derived.RangeFuncNested
import Derived.Lib.Strings
import Derived.Laws.Append
/- Parts of a proof. -/
set_option linter.unusedSimpArgs false
set_option linter.unusedVariables false
set_option linter.unusedSectionVars false
open Array renaming replicate->bo, getElem?_eq_some_iff->bv, range->b0, mem_toList_iff->b1, ext'->b2, getD_eq_getD_getElem?->b3, mapM_eq_mapM_toList->b4, mem_of_getElem?->b5, getElem?_toList->cb, getElem_toList->cc, foldl_toList->ce, toList_map->ck, getD->cv
open Bool renaming false_eq_true->cx, and_eq_true->cy
open Go renaming run_underlying->cA, Value->cB, Operand->cC, World->cN, TypeId->c6, execOp->c9, Program->da, Deferred->db, TypeInfo->dg, Frame->dk, ResultVar->dl, Steps->dp, Machine->dq, FuncId->dz, run_newObj->ea, setRow_other->eb, run_firstCells_some->ec, run_storeCells_at->ed, IntKind->ee, step_lone_go->ei, setRow_size->ej, setRow_heap->em
open Go.Builtin renaming firstCells->en, append_->eo, len_->eq, lenOf->ew, zeroCells->e6, nextslicecap->e7, copy_->e8
open Go.Instr renaming sliceBounds->e9, slice->fb, sureAddr->fl, sliceBound->fm, indexAt->fv, sliceAt->fN, fill->gb, build->gc
open Go.Op renaming operands->ge, unary->gg, intArith->gi, intBits->gj
open Go.Program renaming cellsOf->gl, underlying->gm, underlyingId->gt
open Go.Region renaming wanted->gx
open Go.Result renaming andThen_ok->gy
open Go.Sem renaming run_bind->gA, run_pure->g0, run_map->g7, run->g8
open Go.Steps renaming one->g9, trans->ha, refl->hb
open Go.Value renaming oneCell'->hd, int->he, cells->hg
open Go.World renaming putObj_heap_other->hh, size_alloc->hj
open List renaming getElem?_eq_some_iff->hl, replicate->hm, getElem?_set_self->hn, sum_replicate_nat->ho, take_replicate->hp, getElem?_eq_getElem->hr, length_eq_zero_iff->ht, getElem?_replicate->hv, flatten_cons->hw, append_assoc->hy, mem_append->hz, mem_of_getElem?->hA, getElem?_set_ne->hB, drop_take->hC, range'->hD, length->hE, mem_or_eq_of_mem_set->hF, getElem_append_right->hG, getElem_append_left->hH, eq_of_mem_replicate->hK, getElem?_cons_succ->hL, mem_of_mem_take->hM, mem_of_mem_drop->hN, replicate_succ->hO, flatten_append->hP, mem_singleton->hQ, getElem?_map->hR, length_cons->hS, getElem_mem->hT, all_eq_true->hU, append_nil->hV, mapM_cons->hW, map_take->hX, map_cons->hZ, mem_map->h0
open Nat renaming le_refl->h1, min_eq_left->h2, lt_irrefl->h3, add_zero->h4, add_sub_cancel_left->h5, mul_le_mul->h6, add_assoc->h7, add_mul->h8
open Option renaming isSome_iff_exists->h9, map_none->ih, bind_some->ii, map_some->ik
open Option.some renaming injEq->ip, inj->ix
open Prod renaming snd->iz, fst->iL
namespace Go.au
set_option linter.unusedSectionVars false
variable[Gl]
section
variable{P:da}{ag:dz->Bool}{n N:Nat}
variable{fr:dk}{k:List Item}{cs:List dk}{ops:Array Oper}{i:Nat}{r:List Nat}{ds:List db}
theorem UO{o:Oper}{f:cC}{a:Array cC}{p:Array c6}{b:Nat}{H':Heap}{v:AV}{K:St->Prop}{s:St}{ah aa:Nat->Prop}{β:Bd}{t:Array cB}{w:cN}
 (l:o.op=.call {callee:=.value f,args:=a,argTypes:=p})(hf:ev s.env f=.map b)(m:iD P b s.heap (a.toList.map (ev s.env)) H' v)(x:K ⟨put o.dst v s.env,H'⟩)
 (d:cS P n ah aa β s t w)(A:jc n o=true)(j:ops[i]?=some o)(D:gx o (yielded ops t)=true):
 kn P n N fr k cs ops ah aa w β s.heap (lone (bD fr t ds (.inRegion ops (i::r)::k)) cs w) r ds K:=by
 have e:=(n7 d f).1;rw[hf]at e;simp only[aB,bO,bU]at e;have B:=e.2.2 m.1;obtain⟨y,z⟩:=vW d a.toList;have h:(c9 (fH t) o).run P w=(Instr.yield (β.al b) (a.toList.map (fH t)).toArray).run P w:=by
  simp only[c9,l,resolve,B,Deferred.ofValue,gA,g0,gy,invoke];congr 2;exact b2 (by simp)
 have C:∀c,o.op≠.defer c:=fun c hc=>by rw[l]at hc;cases hc
 obtain⟨g,tmps,assign,body,q,u⟩:=m.2 w aa ah β _ d.heap y z;rw[q]at h;obtain⟨E,w',aJ,aF,g1,g2,g3,g4⟩:=u (bD fr t ds (.inRegion ops (i::r)::k)) cs;refine⟨_,aF,aJ,_,w',x,?_,d.put A g2 g3 g4,g2.fw⟩;rw[<-nI j];exact(g9 (J5 j D C h)).trans g1
theorem Lu(y:lW P ag){d:Bool}{o:Oper}{K:St->Prop}{s:St}{ah aa:Nat->Prop}{β:Bd}{t:Array cB}{w:cN}
 (h:jG P ag d o K s)(a:cS P n ah aa β s t w)(c:jc n o=true)(j:ops[i]?=some o)(l:gx o (yielded ops t)=true):
 kn P n N fr k cs ops ah aa w β s.heap (lone (bD fr t ds (.inRegion ops (i::r)::k)) cs w) r ds K:=by
 have E:=Ux h;have z:fG P ag o (ev s.env) s.heap (fun e=>K (e.app o.dst s))->kn P n N fr k cs ops ah aa w β s.heap (lone (bD fr t ds (.inRegion ops (i::r)::k)) cs w) r ds K:=by
  intro h;obtain⟨e,m,hs,ak,aK⟩:=y o _ _ _ (fun v=>rfl) h;obtain⟨nx,I,w',aJ,aF,A,B,u,C,D⟩:=hs.use a.heap (fun x _=>n7 a x) ak (fun p F=>(aK p F).1);exact⟨_,aF,aJ,_,w',m,.one (tv j l E A B),a.put c u C D,u.fw⟩
 unfold jG at h
 split at h
 ·rename_i f args H q
  split at h
  ·rename_i g fi ca hf;exact JU q (.inr ⟨fi,ca,hf,rfl,rfl⟩) h a c j l
  ·rename_i g fi ca hf;exact JU q (.inl hf) h a c j l
  ·rename_i b hf;obtain⟨H',v,G,m⟩:=h;exact UO q hf G m a c j l
  ·exact h.elim
 ·exact z h
theorem kn.mono{m:dq}{K a:St->Prop}{ah aa:Nat->Prop}{w:cN}{β:Bd}{H:Heap}(h:kn P n N fr k cs ops ah aa w β H m r ds K)(hk:∀s,K s->a s):kn P n N fr k cs ops ah aa w β H m r ds a:=by
 obtain⟨s',aF,aJ,t',w',b,c⟩:=h;exact⟨s',aF,aJ,t',w',hk _ b,c⟩
theorem yJ{s:St}{ah aa:Nat->Prop}{β:Bd}{t:Array cB}{w:cN}(e:cS P n ah aa β s t w)(l:∀o∈ops.toList,jc n o=true)(j:Nat):
 (∀b,guardOf ops j s.env=.p (.bool b)->yielded ops t j=some b)/\(guardOf ops j s.env=.p (.aG [])->yielded ops t j=none):=by
 unfold guardOf yielded;cases k:ops[j]? with
 |none=>simp
 |some f=>
  simp only[ii];cases g:f.dst with
  |none=>simp
  |some d=>
   simp only[ii];have h:d<t.size:=by
    have:=l f (by rw[b1];exact b5 k);unfold jc at this;rw[g]at this;rw[e.size];simpa using this
   have a:=e.env d;have i:t[d]?=some (t.getD d undef):=by simp[cv,h]
   rw[i];constructor
   ·intro b c;rw[c]at a;simp only[aB,aD]at a;rw[a]
   ·intro c;rw[c]at a;simp only[aB,aD,bt]at a;obtain⟨xs,rfl,a⟩:=a;rw[a]
theorem Kt(f:lW P ag){d:Bool}(x:∀o∈ops.toList,jc n o=true):∀(l:List Oper)(i:Nat){K:St->Prop}{s:St}{ah aa:Nat->Prop}{β:Bd}{t:Array cB}{w:cN},
 ops.toList.drop i=l->gU P ag d ops l K s->cS P n ah aa β s t w->
 kn P n N fr k cs ops ah aa w β s.heap (lone (bD fr t ds (.inRegion ops (hD i l.length)::k)) cs w) [] ds K
 |[],i,K,s,ah,aa,β,t,w,v,h,a=>⟨s,aa,β,t,w,h,hb _ _,a,dS.refl _ _ _ _ _ _⟩
 |o::l,i,K,s,ah,aa,β,t,w,v,h,a=>by
  have e:ops[i]?=some o:=by
   have:(ops.toList.drop i)[0]?=some o:=by rw[v];rfl
   rw[List.getElem?_drop]at this;simpa using this
  have F:ops.toList.drop (i+1)=l:=by
   rw[<-List.drop_drop,v];rfl
  have u:jc n o=true:=x o (by rw[b1];exact b5 e);have g:∀{ah aa w β H}{m:dq},kn P n N fr k cs ops ah aa w β H m (hD (i+1) l.length) ds (gU P ag d ops l K)->kn P n N fr k cs ops ah aa w β H m [] ds K:=by
   intro ah aa w β H m E;obtain⟨s',aF,aJ,L,w',A,B,C,D⟩:=E;obtain⟨s2,z,J,t2,I,g1,g2,g3,g4⟩:=Kt f x l (i+1) F A C;exact⟨s2,z,J,t2,I,g1,B.trans g2,g3,D.trans g4⟩
  rw[hS,List.range'_succ]
  have skip:gU P ag d ops l K ⟨put o.dst (.p (.aG [])) s.env,s.heap⟩->gx o (yielded ops t)=false->
   kn P n N fr k cs ops ah aa w β s.heap (lone (bD fr t ds (.inRegion ops (i::hD (i+1) l.length)::k)) cs w) [] ds K:=by
   intro hk G;refine g ⟨_,aa,β,_,w,hk,.one (KE e G),a.put u (bY.refl a.heap) (by simp[aB,aD,bt,undef]) (by simp[aE]),dS.refl _ _ _ _ _ _⟩
  simp only[gU]at h
  split at h
  ·rename_i c;exact g (Lu f h a u e (by simp[gx,c]))
  ·rename_i j M c;obtain⟨g1,g2⟩:=yJ a x j
   split at h
   ·rename_i b q;have y:=g1 b q
    split at h
    ·rename_i r;exact g (Lu f h a u e (by simp[gx,c,y,r]))
    ·rename_i r;exact skip h (by simp[gx,c,y,r])
   ·rename_i q;exact skip h (by simp[gx,c,g2 q])
   ·exact h.elim
theorem aHm{H:Heap}{b v:Nat}(h:H[b]?=none\/H[b]?=some .hole):¬aI H (b,v):=by
 rintro⟨o,a,c⟩;rcases h with h|h
 ·simp only at a;rw[h]at a;cases a
 ·simp only at a;rw[h]at a;cases a;exact c
theorem pV.step{s s':St}{β:Bd}(hf:pV s s'):cd β s.heap β s'.heap:=by
 refine⟨?_,?_,?_,?_,?_⟩
 ·rintro b _ ⟨fz,t,a⟩;rcases hf.heap b _ a with h|h|⟨_,k,z,h,_⟩|⟨v,v',h,_,_⟩
  ·cases h
  ·exact⟨⟨fz,t,h⟩,rfl⟩
  ·cases h
  ·exact⟨⟨_,_,h⟩,rfl⟩
 ·rintro b _ ⟨fz,t,a⟩;rcases hf.heap b _ a with h|h|⟨_,k,z,h,_⟩|⟨v,v',_,h,_⟩
  ·cases h
  ·exact⟨⟨fz,t,h⟩,rfl⟩
  ·cases h
  ·cases h
 ·rintro b _ ⟨o,a,c⟩;rcases hf.heap b _ a with h|h|⟨_,k,z,h,_⟩|⟨v,v',_,h,_⟩
  ·rw[h]at c;exact c.elim
  ·exact⟨⟨o,h,c⟩,rfl⟩
  ·rw[h]at c;exact c.elim
  ·rw[h]at c;exact c.elim
 ·intro b aA ai k d hi a;rcases hf.heap b _ a with h|h|⟨e,_⟩|⟨v,v',_,h,_⟩
  ·cases h
  ·exact⟨k,d,h,h1 _,Iff.rfl,fun _=>⟨rfl,rfl⟩⟩
  ·exact(aHm e hi).elim
  ·cases h
 ·rintro b _ ⟨L,a⟩;rcases hf.heap b _ a with h|h|⟨_,k,z,h,_⟩|⟨v,v',_,h,_⟩
  ·cases h
  ·exact⟨⟨L,h⟩,rfl⟩
  ·cases h
  ·cases h
section aug
variable{w:cN}{aa:Nat->Prop}{β:Bd}{T:Heap}
theorem Po{b aA ai off len:Nat}(h:aA=0/\off=0/\len=0/\∃k z,T[b]?=some (.arr k 0 z [])/\k.gr=true):bO P β T (.sl b aA ai off len) (.slice none 0 0):=by
 obtain⟨rfl,rfl,rfl,k,z,c,d⟩:=h;refine⟨by simp[hd],fun f e a=>?_⟩;unfold eX at a;rw[c]at a;cases a;exact⟨by simp,fun _=>rfl,fun h=>(h ⟨d,rfl⟩).elim⟩
mutual
theorem fY.cells:∀(v:PV)(x:AV)(cs:List cB),fY T v x->aR P w aa v cs->br P w aa β T x cs
 | .aP,x,cs,h,hc=>by
  simp only[fY]at h;rcases h with rfl|h
  ·simpa only[br]using hc
  ·cases x<;>simp only at h<;>try exact h.elim
   simp only[aR]at hc;simp only[br];exact⟨_,hc,Po h⟩
 | .st u fs,x,cs,h,hc=>by
  simp only[fY]at h;rcases h with rfl|h
  ·simpa only[br]using hc
  ·cases x<;>simp only at h<;>try exact h.elim
   obtain⟨rfl,h⟩:=h;simp only[aR]at hc;obtain⟨l,a,d,e,f⟩:=hc;simp only[br];exact⟨l,a,d,kW.cells l fs _ a h e,f⟩
 | .undef,x,cs,h,hc| .bool _,x,cs,h,hc| .int _ _,x,cs,h,hc| .str _,x,cs,h,hc| .dM,x,cs,h,hc| .cE _,x,cs,h,hc| .bP _ _,x,cs,h,hc| .seq _,x,cs,h,hc| .fF,x,cs,h,hc| .fo _,x,cs,h,hc| .func _ _ _,x,cs,h,hc| .iv,x,cs,h,hc| .ga,x,cs,h,hc| .aG _,x,cs,h,hc=>by
  simp only[fY]at h;subst h;simpa only[br]using hc
theorem kW.cells:∀(l:List Nat)(fs:List PV)(b:List AV)(a:List (List cB)),kW T fs b->bg P w aa l fs a->bM P w aa β T l b a
 |l,[],b,a,h,hc=>by
  simp only[kW]at h;subst h;cases l<;>simp_all [bM,bg]
 |l,v::vs,b,a,h,hc=>by
  cases b with
  |nil=>simp[kW]at h
  |cons g b=>
   simp only[kW]at h;cases l with
   |nil=>simp[bg]at hc
   |cons n l=>
    simp only[bg]at hc;obtain⟨c,cs,d,e,f,i⟩:=hc;simp only[bM];exact⟨c,cs,d,fY.cells v g c h.1 e,f,kW.cells l vs b cs h.2 i⟩
end
theorem fY.FM(v:PV)(x:AV)(y:cB)(h:fY T v x)(hc:aD P w aa v y):aB P w aa β T x y:=by
 cases v
 case aP=>
  simp only[fY]at h;rcases h with rfl|h
  ·simpa only[aB]using hc
  ·cases x<;>simp only at h<;>try exact h.elim
   simp only[aD]at hc;subst hc;simp only[aB];exact Po h
 case st u fs=>
  simp only[fY]at h;rcases h with rfl|h
  ·simpa only[aB]using hc
  ·cases x<;>simp only at h<;>try exact h.elim
   obtain⟨rfl,h⟩:=h;simp only[aD]at hc;obtain⟨l,a,b,c,d⟩:=hc;simp only[aB];exact⟨l,a,b,kW.cells l fs _ a h c,d⟩
 all_goals simp only[fY]at h;subst h;simpa only[aB]using hc
mutual
theorem Gh.cells:∀(v x:AV)(cs:List cB),Gh T v x->br P w aa β T v cs->br P w aa β T x cs
 | .p v,x,cs,h,hc=>by simp only[Gh]at h;simp only[br]at hc;exact fY.cells v x cs h hc
 | .st u fs,x,cs,h,hc=>by
  simp only[Gh]at h;cases x<;>simp only at h<;>try exact h.elim
  obtain⟨rfl,h⟩:=h;simp only[br]at hc⊢;obtain⟨l,a,d,e,f⟩:=hc;exact⟨l,a,d,mB.cells l fs _ a h e,f⟩
 | .ptr _ _,x,cs,h,hc| .b6 _ _ _ _ _,x,cs,h,hc| .sl _ _ _ _ _,x,cs,h,hc| .map _,x,cs,h,hc| .func _ _ _,x,cs,h,hc| .aG _,x,cs,h,hc=>by simp only[Gh]at h;subst h;exact hc
theorem mB.cells:∀(l:List Nat)(fs b:List AV)(a:List (List cB)),mB T fs b->bM P w aa β T l fs a->bM P w aa β T l b a
 |l,[],b,a,h,hc=>by simp only[mB]at h;subst h;exact hc
 |l,v::vs,b,a,h,hc=>by
  cases b with
  |nil=>simp[mB]at h
  |cons g b=>
   simp only[mB]at h;cases l with
   |nil=>simp[bM]at hc
   |cons n l=>
    simp only[bM]at hc⊢;obtain⟨c,cs,d,e,f,i⟩:=hc;exact⟨c,cs,d,Gh.cells v g c h.1 e,f,mB.cells l vs b cs h.2 i⟩
end
theorem Gh.FM(v x:AV)(y:cB)(h:Gh T v x)(hc:aB P w aa β T v y):aB P w aa β T x y:=by
 cases v
 case p v=>simp only[Gh]at h;simp only[aB]at hc;exact fY.FM v x y h hc
 case st u fs=>
  simp only[Gh]at h;cases x<;>simp only at h<;>try exact h.elim
  obtain⟨rfl,h⟩:=h;simp only[aB]at hc⊢;obtain⟨l,a,b,c,d⟩:=hc;exact⟨l,a,b,mB.cells l fs _ a h c,d⟩
 all_goals simp only[Gh]at h;subst h;exact hc
theorem fY.aL{v:PV}{x:AV}(h:fY T v x):ad x=au.aL v:=by
 cases v
 case aP=>
  simp only[fY]at h;rcases h with rfl|h
  ·rfl
  ·cases x<;>simp only at h<;>first|exact h.elim|rfl
 case st u fs=>
  simp only[fY]at h;rcases h with rfl|h
  ·rfl
  ·cases x<;>simp only at h<;>try exact h.elim
   simp[ad,au.aL,h.1]
 all_goals simp only[fY]at h;subst h;rfl
theorem Gh.aL{v x:AV}(h:Gh T v x):ad x=ad v:=by
 cases v
 case p v=>simp only[Gh]at h;exact h.aL
 case st u fs=>
  simp only[Gh]at h;cases x<;>simp only at h<;>try exact h.elim
  simp[ad,h.1]
 all_goals simp only[Gh]at h;subst h;rfl
end aug
theorem dt.fw{s s':St}{β:Bd}{ah aa:Nat->Prop}{w:cN}(hf:dt N s s'):dS N ah aa w β s.heap ah aa w β s'.heap:=by
 rcases hf with rfl|hf
 ·exact dS.refl _ _ _ _ _ _
 ·exact⟨fun _ h=>h,fun _ h=>h,fun _ h=>.inl h,Ext.refl _ _ _,hf.1.step.n,fun x a⟨o,e,d⟩=>⟨o,by rw[hf.2 _ a];exact e,d⟩,fun b a⟨L,c⟩=>⟨L,by rw[hf.2 _ a];exact c⟩⟩
theorem pV.rel{s s':St}{ah aa:Nat->Prop}{β:Bd}{t:Array cB}{w:cN}(hf:pV s s')(h:cS P n ah aa β s t w):cS P n ah aa β s' t w:=by
 have aH:cd β s.heap β s'.heap:=hf.step;refine⟨⟨?_,?_,hf.hrefs,h.heap.bR,h.heap.er,h.heap.ia⟩,fun x=>?_,hf.gH,h.size⟩
 ·intro b o F;rcases hf.heap b o F with rfl|i|⟨_,k,z,rfl,hk⟩|⟨v,v',i,rfl,r⟩
  ·trivial
  rotate_left
  ·exact .inl ⟨hk,rfl⟩
  ·have d:=h.heap.cF b _ i;have g:=h.heap.refs b _ i;obtain⟨cs,T,a,c,e,l,D⟩:=d;exact⟨cs,T,a,Gh.cells _ _ _ r (br.mono (fun _ x=>x) (fun _ _=>rfl) aH _ _ g c),e,(fun h=>by cases h),by rw[r.aL];exact D⟩
  ·have d:=h.heap.cF b o i;have g:=h.heap.refs b o i;cases o with
   |hole=>trivial
   |dead=>trivial
   |box fz t=>
    obtain⟨cs,T,a,c,e⟩:=d;exact⟨cs,T,a,br.mono (fun _ x=>x) (fun _ _=>rfl) aH _ _ g c,e⟩
   |arr k aA ai es=>
    rcases d with d|⟨cs,T,B,rest,a,c,e⟩
    ·exact .inl d
    ·exact .inr ⟨cs,T,B,rest,a,bM.mono (fun _ x=>x) (fun _ _=>rfl) aH _ _ _ g c,e⟩
   |map fz es=>exact d
   |dy ks vs=>
    obtain⟨C,clock,a,c,e,l⟩:=d;exact⟨C,clock,a,c,bB.mono (fun _ x=>x) (fun _ _=>rfl) aH _ _ g e,l⟩
   |dC s pos=>exact d
   |loop L=>
    obtain⟨tmps,defers,fn,a,c,e,l⟩:=d;exact⟨tmps,defers,fn,a,c,fun x=>aB.mono (fun _ x=>x) (fun _ _=>rfl) aH _ _ (g x) (e x),l⟩
 ·intro x y I J a c p q E f;have A:∀{z:Nat}{o:Obj},s'.heap[z]?=some o->o.live->∃o',s.heap[z]?=some o'/\o'.live:=by
   intro z o j m;rcases hf.heap z o j with rfl|j|⟨_,k,_,rfl,hk⟩|⟨v,v',j,_,_⟩
   ·exact m.elim
   ·exact⟨o,j,m⟩
   ·exact(m ⟨hk,rfl⟩).elim
   ·exact⟨_,j,trivial⟩
  obtain⟨G,a,p⟩:=A a p;obtain⟨H,c,q⟩:=A c q;exact h.heap.inj x y G H a c p q E f
 ·have u:=aB.mono (fun _ x=>x) (fun _ _=>rfl) aH _ _ (h.gH x) (h.env x);rcases hf.env x with f|f|f
  ·rw[f];exact u
  ·rw[f];simp[aB,aD]
  ·exact Gh.FM _ _ _ f u
theorem dt.rel{s s':St}{ah aa:Nat->Prop}{β:Bd}{t:Array cB}{w:cN}(hf:dt N s s')(h:cS P n ah aa β s t w):cS P n ah aa β s' t w:=by
 rcases hf with rfl|hf
 ·exact h
 ·exact hf.1.rel h
def nj(P:da)(fr:dk)(k:List Item)(cs:List dk)(m:dq)(t:Array cB)(ds:List db)(w:cN):bC->Prop
 | .normal=>dp P m (lone (bD fr t ds k) cs w)
 | .exit id=>∃a,exitTo id a=exitTo id k/\dp P m (lone (bD fr t ds (.code (.exit id)::a)) cs w)
 | .ret=>∃a,dp P m (lone (bD fr t ds (.code .ret::a)) cs w)
theorem nj.of_steps{m f:dq}{t:Array cB}{ds:List db}{w:cN}{e:bC}(h:dp P m f)(c:nj P fr k cs f t ds w e):nj P fr k cs m t ds w e:=by
 cases e with
 |normal=>exact h.trans c
 |exit id=>obtain⟨d,a,b⟩:=c;exact⟨d,a,h.trans b⟩
 |ret=>obtain⟨d,b⟩:=c;exact⟨d,h.trans b⟩
def mark(r:Nat):db:={target:=.collected r,args:=#[]}
def Marks(fr:dk)(ah:Nat->Prop)(w:cN)(jZ aF:Nat->Prop)(w':cN)(b c:List db):Prop:=
 ∃a:List Nat,c=a.map mark++b/\a.Nodup/\(∀r∈a,w.heap.size<=r/\jZ r/\¬aF r/\w'.heap[r]?=some (.deferred (some [])))/\(∀k,jZ k->ah k\/k∈a)/\(fr.roundOf.isSome=true->a=[])
theorem Marks.refl(fr:dk)(ah aF:Nat->Prop)(w w':cN)(ds:List db):Marks fr ah w ah aF w' ds ds:=⟨[],rfl,List.nodup_nil,by simp,fun _ h=>.inl h,fun _=>rfl⟩
theorem Marks.trans{fr:dk}{N:Nat}{ah aa d e g f:Nat->Prop}{w w1 l:cN}{β p B:Bd}{H H1 q:Heap}{ds m n:List db}(h:Marks fr ah w d e w1 ds m)(i:dS N ah aa w β H d e w1 p H1)
 (s:Marks fr d w1 g f l m n)(j:dS N d e w1 p H1 g f l B q):Marks fr ah w g f l ds n:=by
 obtain⟨rs,rfl,t,o,u,v⟩:=h;obtain⟨A,rfl,g2,g3,g4,g5⟩:=s;refine⟨A++rs,by simp,?_,?_,?_,fun hx=>by simp[v hx,g5 hx]⟩
 ·rw[List.nodup_append];refine⟨g2,t,fun a i b y x=>?_⟩;subst x;have C:=(g3 a i).1;have D:=(bv.1 (o a y).2.2.2).1;omega
 ·intro r c;rcases hz.1 c with c|c
  ·obtain⟨k1,k2⟩:=g3 r c;exact⟨Nat.le_trans i.ext.size k1,k2⟩
  ·obtain⟨k1,k2,k3,k4⟩:=o r c;exact⟨k1,j.er _ k2,fun hx=>(j.fresh _ hx).elim k3 (fun z=>z k2),(j.ext.same _ (.inl k2)).trans k4⟩
 ·intro k hk;rcases g4 k hk with hk|hk
  ·rcases u k hk with hk|hk
   ·exact .inl hk
   ·exact .inr (by simp[hk])
  ·exact .inr (by simp[hk])
def rE(N:Nat)(fr:dk)(β:Bd)(H:Heap):Prop:=∀l,fr.roundOf=some l->∃b,b<N/\gQ H b/\β.al b=l
theorem rE.fw{fr:dk}{β aJ:Bd}{H H':Heap}{ah aa jZ aF:Nat->Prop}{w w':cN}(h:rE N fr β H)(e:dS N ah aa w β H jZ aF w' aJ H'):rE N fr aJ H':=by
 intro l i;obtain⟨b,a,c,f⟩:=h l i;have d:=e.loop b a c;obtain⟨L,g⟩:=c;exact⟨b,a,d,((e.step.loop b a ⟨_,g,trivial⟩ d).2).trans f⟩
def qQ(P:da)(n N:Nat)(fr:dk)(k:List Item)(cs:List dk)(ah aa:Nat->Prop)(w:cN)(β:Bd)(H:Heap)(m:dq)(c:List db)(Q:bC->St->Prop):Prop:=
 ∃e s' jZ aF aJ b w' a,Q e s'/\nj P fr k cs m b a w' e/\cS P n jZ aF aJ s' b w'/\dS N ah aa w β H jZ aF w' aJ s'.heap/\Marks fr ah w jZ aF w' c a
theorem qQ.of{k:List Item}{ah aa:Nat->Prop}{w:cN}{β:Bd}{H:Heap}{m:dq}{ds:List db}{Q:bC->St->Prop}{e:bC}{s':St}{aF:Nat->Prop}{aJ:Bd}{a:Array cB}{w':cN}(hq:Q e s')(c:nj P fr k cs m a ds w' e)
 (d:cS P n ah aF aJ s' a w')(b:dS N ah aa w β H ah aF w' aJ s'.heap):qQ P n N fr k cs ah aa w β H m ds Q:=⟨e,s',ah,aF,aJ,a,w',ds,hq,c,d,b,Marks.refl _ _ _ _ _ _⟩
theorem qQ.next{k:List Item}{ah aa b a:Nat->Prop}{w c:cN}{β i:Bd}{H H1:Heap}{m g:dq}{d e:List db}{Q:bC->St->Prop}(f:dS N ah aa w β H b a c i H1)(p:Marks fr ah w b a c d e)(aH:dp P m g)
 (h:qQ P n N fr k cs b a c i H1 g e Q):qQ P n N fr k cs ah aa w β H m d Q:=by
 obtain⟨e2,s2,l,j,r,t2,q,o,g1,g2,g3,g4,g5⟩:=h;exact⟨e2,s2,l,j,r,t2,q,o,g1,.of_steps aH g2,g3,f.trans g4,p.trans f g5 g4⟩
def codeOk(fit:Nat->Array Oper->Bool)(n:Nat):Code->Bool
 | .region _ ops draw=>ops.toList.all (jc n)&&(!draw||fit n ops)
 | .seq a b=>codeOk fit n a&&codeOk fit n b
 | .cond _ a b=>codeOk fit n a&&codeOk fit n b
 | .block _ b| .scope b| .loop b=>codeOk fit n b
 | .rangeFunc _ _ a b=>codeOk fit n a&&codeOk fit n b
 |_=>true
def tI(P:da)(ag:dz->Bool)(fit:Nat->Array Oper->Bool):Prop:=
 ∀(n N:Nat)(a:Array Oper)(fr:dk)(k:List Item)(cs:List dk)(b:List db)(c:Nat)(K:St->Prop)(s:St)(ah aa:Nat->Prop)(β:Bd)(t:Array cB)(w:cN),
  fit n a=true->(∀o∈a.toList,jc n o=true)->gq P ag a a.toList 0 [] K s->cS P n ah aa β s t w->
  kn P n N fr k cs a ah aa w β s.heap (lone (bD fr t b (.inRegion a (Region.schedule (P.follows .mixedOrders) a c)::k)) cs w) [] b K
theorem cS.draw{s:St}{ah aa:Nat->Prop}{β:Bd}{t:Array cB}{w w':cN}(a:w'.heap=w.heap)(h:cS P n ah aa β s t w):cS P n ah aa β s t w':=
 ⟨h.heap.v7 a,fun x=>aB.mono (fun _ x=>x) (fun _ _=>by rw[a]) (cd.refl _ _) _ _ (h.gH x) (h.env x),h.gH,h.size⟩
section rf
variable{w w':cN}{aa ah:Nat->Prop}{β:Bd}{H:Heap}
theorem bS.Lp(h:bS P w aa β H ah){x:Nat}(hx:x<w.heap.size)(v:∀(b:Nat)(o:Obj),H[b]?=some o->o.live->β.al b≠x):bS P w aa β H (fun k=>ah k\/k=x):=by
 refine⟨fun b o m=>?_,h.inj,h.refs,h.bR,fun k hk=>hk.elim (h.er k) (fun e=>e▸hx),h.ia⟩;have held:∀fz,o.live->cG aa β ah fz b->cG aa β (fun k=>ah k\/k=x) fz b:=by
  intro fz j i;unfold cG at i⊢;cases fz with
  |true=>exact i
  |false=>exact⟨i.1,fun y=>y.elim i.2 (v b o m j)⟩
 have f:=h.cF b o m;cases o with
 |hole=>trivial
 |dead=>trivial
 |box fz t=>obtain⟨cs,T,a,c,d,g⟩:=f;exact⟨cs,T,a,c,held _ trivial d,g⟩
 |arr k aA ai es=>
  rcases f with f|⟨cs,T,n,rest,a,c,d,g,p,q,r,u⟩
  ·exact .inl f
  ·by_cases j:df k es
   ·exact .inl j
   ·exact .inr ⟨cs,T,n,rest,a,c,d,g,p,q,held _ j r,u⟩
 |map fz es=>obtain⟨l,clock,a,c,d⟩:=f;exact⟨l,clock,a,c,held _ trivial d⟩
 |dy ks vs=>obtain⟨l,clock,a,c,d,g⟩:=f;exact⟨l,clock,a,c,d,held _ trivial g⟩
 |dC s pos=>obtain⟨bs,a,c,d⟩:=f;exact⟨bs,a,c,held _ trivial d⟩
 |loop L=>obtain⟨tmps,defers,fn,a,c,d,g⟩:=f;exact⟨tmps,defers,fn,a,c,d,held _ trivial g⟩
theorem bS.shut(h:bS P w aa β H ah){Prot0:Nat->Prop}(q:∀k,Prot0 k->ah k){R:Nat->Prop}(m:∀x,R x->ah x/\¬aa x)(r:w'.heap.size=w.heap.size)(hs:∀k,¬R k->w'.heap[k]?=w.heap[k]?):bS P w' aa β H Prot0:=by
 have same:∀k,aa k->w'.heap[k]?=w.heap[k]?:=fun k hk=>hs k (fun i=>(m k i).2 hk);refine⟨fun b o p=>?_,h.inj,h.refs,fun k hk=>r▸h.bR k hk,fun k hk=>r▸h.er k (q k hk),h.ia.mono (fun _ x=>x) same⟩;have held:∀fz,cG aa β ah fz b->cG aa β Prot0 fz b:=by
  intro fz f;unfold cG at f⊢;cases fz with
  |true=>exact f
  |false=>exact⟨f.1,fun A=>f.2 (q _ A)⟩
 have al:∀fz,cG aa β ah fz b->w'.heap[β.al b]?=w.heap[β.al b]?:=by
  intro fz f;refine hs _ (fun i=>?_);unfold cG at f;cases fz with
  |true=>exact(m _ i).2 f
  |false=>exact f.2 (m _ i).1
 have g:=h.cF b o p;have j:=h.refs b o p;cases o with
 |hole=>trivial
 |dead=>trivial
 |box fz t=>obtain⟨cs,T,c,d,a,e⟩:=g;exact⟨cs,T,(al _ a).trans c,br.mono (fun _ x=>x) same (cd.refl _ _) _ _ j d,held _ a,e⟩
 |arr k aA ai es=>
  rcases g with g|⟨cs,T,u,rest,c,d,a,e,v,y,n,z⟩
  ·exact .inl g
  ·exact .inr ⟨cs,T,u,rest,(al _ n).trans c,bM.mono (fun _ x=>x) same (cd.refl _ _) _ _ _ j d,a,e,v,y,held _ n,z⟩
 |map fz es=>obtain⟨l,clock,c,d,a⟩:=g;exact⟨l,clock,(al _ a).trans c,cH.mono (fun _ x=>x) same _ _ d,held _ a⟩
 |dy ks vs=>obtain⟨l,clock,c,d,a,e⟩:=g;exact⟨l,clock,(al _ e).trans c,bt.mono (fun _ x=>x) same _ _ d,bB.mono (fun _ x=>x) same (cd.refl _ _) _ _ j a,held _ e⟩
 |dC s pos=>obtain⟨bs,c,d,a⟩:=g;exact⟨bs,(al _ a).trans c,d,held _ a⟩
 |loop L=>obtain⟨tmps,defers,fn,c,d,a,e⟩:=g;exact⟨tmps,defers,fn,(al _ e).trans c,d,fun x=>aB.mono (fun _ x=>x) same (cd.refl _ _) _ _ (j x) (a x),held _ e⟩
theorem DE(H:Heap)(o:Obj):(H++hm 1 Obj.hole).set H.length o=H++[o]:=by
 rw[List.set_append_right _ _ (h1 _)];simp
theorem Ms(a:bS P w aa β H ah){L:fh}{tmps:Array cB}{defers fn:Nat}(h:tmps.size=L.n)(l:∀x,aB P w aa β H (aN L.env x) (tmps.getD x undef))(c:∀x,aE (aI H) (aN L.env x)):
 bY P ah aa w β H aa (w.alloc (.loop {state:=L.st,pending:=L.pending,fn,tmps,params:=L.params.toArray,assign:=L.assign,body:=L.body,defers})) (β.at H.length w.heap.size 0) (H++[.loop L]):=by
 have d:bY P ah aa w β H aa w β (H++hm 1 .hole):=⟨fun _ x=>x,fun _ x=>.inl x,Ext.refl _ _ _,pc _ _ _,a.nr _,mM _ _,fun b⟨L,e⟩=>⟨L,by rw[ka,if_pos (hl.1 e).1];exact e⟩⟩
 have f:(H++hm 1 Obj.hole)[H.length]?=some .hole:=by rw[ka];simp
 have aH:=(pc β H 1)
 have j:=yY (β:=β) f (.loop L) w.heap.size 0;have hrefs:∀x,aE (aI ((H++hm 1 Obj.hole).set H.length (.loop L))) (aN L.env x):=by
  intro x;rw[DE];exact aE.mono (fun y m=>K6 m) _ (c x)
 have g:=tL (cap:=0) d.rel f (ob:=.loop {state:=L.st,pending:=L.pending,fn,tmps,params:=L.params.toArray,assign:=L.assign,body:=L.body,defers}) (o':=.loop L)
  ⟨tmps,defers,fn,by simp[Bd.at],h,fun x=>aB.mono (fun _ x=>x) (fun k hk=>vQ w _ (a.bR k hk)) j _ _ (aE.mono (mM _ _) _ (c x)) (aB.mono (fun _ x=>x) (fun _ _=>rfl) aH _ _ (c x) (l x)),?_⟩ hrefs
 ·rw[DE]at g;exact d.trans g
 ·unfold cG;simp only[cx,if_false,Bd.at,if_true];exact⟨fun hi=>by have:=a.bR _ hi;omega,fun i=>by have:=a.er _ i;omega⟩
theorem C7(g:bS P w aa β H ah){b:Nat}{L:fh}(a:H[b]?=some (.loop L))(st:LoopState)(d:Option Code):
 ∃rec:Loop,w.heap[β.al b]?=some (.loop rec)/\rec.state=L.st/\rec.pending=L.pending/\rec.params=L.params.toArray/\rec.assign=L.assign/\rec.body=L.body/\rec.tmps.size=L.n/\(∀x,aB P w aa β H (aN L.env x) (rec.tmps.getD x undef))/\
  bY P ah aa w β H aa (w.putObj (β.al b) (.loop {rec with state:=st,pending:=d})) β (H.set b (.loop {L with st:=st,pending:=d})):=by
 obtain⟨tmps,defers,fn,p,q,r,c⟩:=g.cF b _ a;refine⟨_,p,rfl,rfl,rfl,rfl,rfl,q,r,?_⟩;have v:=(bv.1 p).1;have s:=(hl.1 a).1;unfold cG at c;simp only[cx,if_false]at c;have aH:cd β H β (H.set b (.loop {L with st:=st,pending:=d})):=by
  have j:∀(x:Nat)(o:Obj),(H.set b (Obj.loop {L with st:=st,pending:=d}))[x]?=some o->(∀i,o≠Obj.loop i)->H[x]?=some o:=by
   intro x o m y
   by_cases hx:b=x
   ·subst hx;rw[hn s]at m;cases m;exact(y _ rfl).elim
   ·rwa [hB hx]at m
  refine⟨?_,?_,?_,?_,?_⟩
  ·rintro x _ ⟨f,t,h⟩;exact⟨⟨f,t,j _ _ h (by simp)⟩,rfl⟩
  ·rintro x _ ⟨f,t,h⟩;exact⟨⟨f,t,j _ _ h (by simp)⟩,rfl⟩
  ·rintro x _ ⟨z,h,l⟩;exact⟨⟨z,j _ _ h (fun i e=>by rw[e]at l;exact l.elim),l⟩,rfl⟩
  ·intro x aA ai k u _ h;exact⟨k,u,j _ _ h (by simp),h1 _,Iff.rfl,fun _=>⟨rfl,rfl⟩⟩
  ·rintro x _ ⟨i,h⟩;refine⟨?_,rfl⟩
   by_cases hx:b=x
   ·subst hx;exact⟨L,a⟩
   ·rw[hB hx]at h;exact⟨i,h⟩
 have ak:∀x,aI H x->aI (H.set b (Obj.loop {L with st:=st,pending:=d})) x:=ma a (fun _ _=>trivial);have same:∀k,aa k->(w.putObj (β.al b) (.loop {state:=st,pending:=d,fn,tmps,params:=L.params.toArray,assign:=L.assign,body:=L.body,defers})).heap[k]?=w.heap[k]?:=fun k hk=>hh (fun e=>c.1 (e▸hk));refine bY.set g s (fun _ _=>⟨rfl,rfl⟩) (fun _ x=>x) (fun _ x=>.inl x) (fun k hk=>by simpa using g.bR k hk) (by simp)
  (fun k hk _=>hh (hk.resolve_right (fun h=>h trivial))) (fun _=>.inr ⟨rfl,⟨_,a,trivial⟩,.inr c.1,c.2⟩) aH
  ⟨tmps,defers,fn,World.putObj_heap_same v,q,fun x=>aB.mono (fun _ x=>x) same aH _ _ (g.refs b _ a x) (r x),?_⟩ (fun x=>aE.mono ak _ (g.refs b _ a x)) (fun _ _ _ _=>trivial) (fun _ _=>⟨_,rfl⟩)
 unfold cG;simpa using c
end rf
theorem VW{s:St}{ah aa:Nat->Prop}{β:Bd}{t:Array cB}{w:cN}(c:cS P n ah aa β s t w)(F:rE N fr β s.heap)(e:Array Tmp)(a b:Code)(p:List db){f:Env}(g:∀x,aN f x=aN s.env x):
 ∃l mk i m j,(Instr.enterLoop fr.fn t e a b fr.roundOf).run P w=.ok (l,mk) i/\bS P i aa j (s.heap++[.loop ⟨.ready,none,n,e.toList,a,b,f⟩]) m/\j.al s.heap.length=l/\
  dS N ah aa w β s.heap m aa i j (s.heap++[.loop ⟨.ready,none,n,e.toList,a,b,f⟩])/\Marks fr ah w m aa i p (mk++p)/\
  cd β s.heap j (s.heap++[.loop ⟨.ready,none,n,e.toList,a,b,f⟩]):=by
 cases v:fr.roundOf with
 |none=>
  have q:bY P ah aa w β s.heap aa (w.alloc (.deferred (some []))) β s.heap:=c.heap.later (fun _ x=>x) (fun _ x=>.inl x) (fun k hk=>by have:=c.heap.bR k hk;rw[hj];omega) (by rw[hj];omega) (fun k hk=>vQ w _ hk);have D:=q.rel.Lp (x:=w.heap.size) (by rw[hj];omega) (fun b o H G g=>by have:=c.heap.mQ H G;omega);have d:=Ms (L:=⟨.ready,none,n,e.toList,a,b,f⟩) (tmps:=t) (defers:=w.heap.size) (fn:=fr.fn) D c.size (fun x=>by rw[g];exact aB.mono (fun _ x=>x) (fun k hk=>vQ w _ (c.heap.bR k hk)) (cd.refl _ _) _ _ (c.gH x) (c.env x)) (fun x=>by rw[g];exact c.gH x);have C:dS N ah aa w β s.heap (fun k=>ah k\/k=w.heap.size) aa (w.alloc (.deferred (some []))) β s.heap:=⟨fun _ h=>.inl h,fun _ h=>h,fun _ h=>.inl h,q.ext,(cd.refl _ _).n,fun _ _ h=>h,fun _ _ h=>h⟩
  refine⟨_,_,_,_,_,run_enterLoop_outer fr.fn t e a b,d.rel,?_,C.trans d.fw,?_,d.step⟩
  ·simp[Bd.at,hj]
  ·refine⟨[w.heap.size],rfl,by simp,?_,fun k hk=>hk.imp id (fun h=>by simp[h]),by simp[v]⟩;intro r u;simp only[hQ]at u;subst u;refine⟨h1 _,.inr rfl,fun hi=>by have:=c.heap.bR _ hi;omega,?_⟩;exact(d.ext.same _ (.inl (.inr rfl))).trans (World.alloc_heap_new w _)
 |some I=>
  obtain⟨y,M,A,B⟩:=F I v;obtain⟨J,E⟩:=A;obtain⟨O,z,K,g1,_⟩:=c.heap.cF y _ E;rw[B]at g1;have d:=Ms (L:=⟨.ready,none,n,e.toList,a,b,f⟩) (tmps:=t) (defers:=z) (fn:=fr.fn) c.heap c.size (fun x=>by rw[g];exact c.env x) (fun x=>by rw[g];exact c.gH x);exact⟨_,_,_,_,_,run_enterLoop_inner g1 fr.fn t e a b,d.rel,by simp[Bd.at],d.fw,Marks.refl _ _ _ _ _ _,d.step⟩
theorem mJ(M:lW P ag){fit:Nat->Array Oper->Bool}(K:tI P ag fit):∀(c:Code)(k:List Item){Q:bC->St->Prop}{s:St}{ah aa:Nat->Prop}{β:Bd}{t:Array cB}{w:cN}{ds:List db},
 codeOk fit n c=true->cg P ag (n,N) c Q s->cS P n ah aa β s t w->rE N fr β s.heap->qQ P n N fr k cs ah aa w β s.heap (lone (bD fr t ds (.code c::k)) cs w) ds Q
 | .skip,k,Q,s,ah,aa,β,t,w,ds,_,h,i,_=>.of h (.one aJX:nj P fr k cs _ t ds w .normal) i (dS.refl _ _ _ _ _ _)
 | .label l,k,Q,s,ah,aa,β,t,w,ds,_,h,i,_=>.of h (.one Xn:nj P fr k cs _ t ds w .normal) i (dS.refl _ _ _ _ _ _)
 | .exit id,k,Q,s,ah,aa,β,t,w,ds,_,h,i,_=>.of h (⟨k,rfl,hb _ _⟩:nj P fr k cs _ t ds w (.exit id)) i (dS.refl _ _ _ _ _ _)
 | .ret,k,Q,s,ah,aa,β,t,w,ds,_,h,i,_=>.of h (⟨k,hb _ _⟩:nj P fr k cs _ t ds w .ret) i (dS.refl _ _ _ _ _ _)
 | .region id ops draw,k,Q,s,ah,aa,β,t,w,ds,z,h,i,_=>by
  simp only[codeOk,cy,hU]at z;simp only[cg]at h;cases draw with
  |false=>
   simp only[cx,if_false]at h;obtain⟨s',aF,aJ,ay,w',j,r,q,d⟩:=Kt (fr:=fr) (k:=k) (cs:=cs) (ds:=ds) (N:=N) M z.1 ops.toList 0 (by simp) h i;refine .of (e:=.normal) j ?_ q d;have e:List.range ops.size=hD 0 ops.toList.length:=by rw[List.range_eq_range'];simp
   exact(g9 S7).trans ((by rw[e];exact r:dp P _ _).trans (.one IX))
  |true=>
   simp only[if_true]at h;have a3:cS P n ah aa β s t {w with drawn:=w.drawn+1}:=cS.draw (w:=w) (w':={w with drawn:=w.drawn+1}) rfl i;obtain⟨s',aF,aJ,ay,w',j,r,q,d⟩:=K n N ops fr k cs ds (w.tape w.drawn (.order fr.fn id)) _ s ah aa β t _ (by simpa using z.2) z.1 h a3;exact .of (e:=.normal) j ((g9 aJT).trans (r.trans (.one IX)):nj P fr k cs _ ay ds w' .normal) q ⟨d.er,d.bR,d.fresh,⟨d.ext.size,d.ext.same,d.ext.io⟩,d.step,d.fp,d.loop⟩
 | .seq a b,k,Q,s,ah,aa,β,t,w,ds,z,h,i,D=>by
  simp only[codeOk,cy]at z;simp only[cg]at h;obtain⟨e,s1,p,C,A,t1,o,E,j,r,q,d,B⟩:=mJ M K a (.code b::k) z.1 h i D;cases e with
  |normal=>exact .next d B ((g9 DU).trans r) (mJ M K b k z.2 j q (D.fw d))
  |exit id=>
   obtain⟨F,O,a2⟩:=r;exact⟨.exit id,s1,p,C,A,t1,o,E,j,⟨F,O.trans (by simp[exitTo]),(g9 DU).trans a2⟩,q,d,B⟩
  |ret=>
   obtain⟨F,a2⟩:=r;exact⟨.ret,s1,p,C,A,t1,o,E,j,⟨F,(g9 DU).trans a2⟩,q,d,B⟩
 | .cond c a b,k,Q,s,ah,aa,β,t,w,ds,z,h,i,D=>by
  simp only[codeOk,cy]at z;simp only[cg]at h
  split at h
  ·rename_i az aL;have ao:=(n7 i c).1;rw[aL]at ao;simp only[aB,aD]at ao;have aH:=aJS (P:=P) (fr:=fr) (ds:=ds) (k:=k) (cs:=cs) (w:=w) (x:=a) (y:=b) ao;cases az with
   |true=>exact .next (dS.refl N ah aa w β s.heap) (Marks.refl _ _ _ _ _ _) (.one (by simpa using aH)) (mJ M K a k z.1 (by simpa using h) i D)
   |false=>exact .next (dS.refl N ah aa w β s.heap) (Marks.refl _ _ _ _ _ _) (.one (by simpa using aH)) (mJ M K b k z.2 (by simpa using h) i D)
  ·exact h.elim
 | .block id b,k,Q,s,ah,aa,β,t,w,ds,z,h,i,D=>by
  simp only[codeOk]at z;simp only[cg]at h;obtain⟨e,s1,p,C,A,t1,o,E,j,r,q,d,B⟩:=mJ M K b (.inBlock id::k) z h i D;cases e with
  |normal=>exact⟨.normal,s1,p,C,A,t1,o,E,j,(g9 y8).trans (r.trans (.one V5)),q,d,B⟩
  |exit ad=>
   obtain⟨F,O,a2⟩:=r;dsimp only at j
   split at j
   ·rename_i hid;subst hid;refine⟨.normal,s1,p,C,A,t1,o,E,j,(g9 y8).trans (a2.trans (.one (aJU ?_))),q,d,B⟩;rw[O];simp[exitTo]
   ·rename_i hid;exact⟨.exit ad,s1,p,C,A,t1,o,E,j,⟨F,O.trans (by simp[exitTo,Ne.symm hid]),(g9 y8).trans a2⟩,q,d,B⟩
  |ret=>
   obtain⟨F,a2⟩:=r;exact⟨.ret,s1,p,C,A,t1,o,E,j,⟨F,(g9 y8).trans a2⟩,q,d,B⟩
 | .scope b,k,Q,s,ah,aa,β,t,w,ds,z,h,i,D=>by
  simp only[codeOk]at z;simp only[cg]at h;obtain⟨e,s1,p,C,A,t1,o,E,j,r,q,d,B⟩:=mJ M K b (.inScope b::k) z h i D;cases e with
  |normal=>exact⟨.normal,s1,p,C,A,t1,o,E,j,(g9 CT).trans (r.trans (.one V4)),q,d,B⟩
  |exit ad=>
   obtain⟨F,O,a2⟩:=r;exact⟨.exit ad,s1,p,C,A,t1,o,E,j,⟨F,O.trans (by simp[exitTo]),(g9 CT).trans a2⟩,q,d,B⟩
  |ret=>
   obtain⟨F,a2⟩:=r;exact⟨.ret,s1,p,C,A,t1,o,E,j,⟨F,(g9 CT).trans a2⟩,q,d,B⟩
 | .loop b,k,Q,s,ah,aa,β,t,w,ds,z,h,i,D=>by
  simp only[codeOk]at z;simp only[cg]at h;obtain⟨I,⟨m0,t0,hf,hI⟩,a5⟩:=h
  have loop:∀(m:Nat)(u:St)(ah aa:Nat->Prop)(β:Bd)(t:Array cB)(w:cN)(ds:List db),I m u->cS P n ah aa β u t w->rE N fr β u.heap->
   qQ P n N fr k cs ah aa w β u.heap (lone (bD fr t ds (.code b::.inLoop b::k)) cs w) ds Q:=by
   intro m
   induction m using Nat.strongRecOn with
   |_ m a8=>
    intro u ah aa β t w ds hI i D;obtain⟨e,s1,p,C,A,t1,o,E,j,r,q,d,B⟩:=mJ M K b (.inLoop b::k) z (a5 m u hI) i D;cases e with
    |normal=>
     obtain⟨a9,u',a0,ar,aA⟩:=j;have ac:=ar.fw (β:=A) (ah:=p) (aa:=C) (w:=o);exact .next (d.trans ac) B (ha r (.one Wr)) (a8 a9 a0 u' p C A t1 o E aA (ar.rel q) ((D.fw d).fw ac))
    |exit ad=>
     obtain⟨F,O,a2⟩:=r;exact⟨.exit ad,s1,p,C,A,t1,o,E,j,⟨F,O.trans (by simp[exitTo]),a2⟩,q,d,B⟩
    |ret=>
     obtain⟨F,a2⟩:=r;exact⟨.ret,s1,p,C,A,t1,o,E,j,⟨F,a2⟩,q,d,B⟩
  have ac:=hf.fw (β:=β) (ah:=ah) (aa:=aa) (w:=w);exact .next ac (Marks.refl _ _ _ _ _ _) (.one aJV) (loop m0 t0 ah aa β t w ds hI (hf.rel i) (D.fw ac))
 | .rangeFunc f G a b,k,Q,s,ah,aa,β,t,w,ds,z,h,i,D=>by
  simp only[cg]at h;obtain⟨be,R,aV,h⟩:=h;have Y:=n7 i f
  obtain⟨g,fi,ca,J,H,aX,aW,aO,av,au,ab,v,aY,af⟩:∃g fi ca,∃J H:List cB,fH t f= .func (.func g) J.toArray H.toArray/\bB P w aa β s.heap fi J/\bB P w aa β s.heap ca H/\aS (aI s.heap) fi/\aS (aI s.heap) ca/\
   ∃ab v,cw P g (s.heap++[.loop ⟨.ready,none,n,G.toList,a,b,R⟩]) (fi++[.map s.heap.length]++ca) ab v/\iZ s.heap.length s.env Q ab:=by
   unfold jP at h
   split at h
   ·rename_i g fi ca hf;rw[hf]at Y;simp only[aB,aD]at Y;obtain⟨⟨J,H,j,r,q⟩,_⟩:=Y;exact⟨g,_,_,J,H,q,jz.2 j,jz.2 r,iW _ _,iW _ _,h⟩
   ·rename_i g fi ca hf;rw[hf]at Y;simp only[aB,aE]at Y;obtain⟨⟨J,H,j,r,q⟩,d,B⟩:=Y;exact⟨g,fi,ca,J,H,q,j,r,d,B,h⟩
   ·exact h.elim
  obtain⟨l,mk,o,p,A,e1,e2,e3,e4,e5,ai⟩:=VW (fr:=fr) i D G a b ds aV;obtain⟨aT,aP⟩:=aY;have ak:∀x,aI s.heap x->aI (s.heap++[.loop ⟨.ready,none,n,G.toList,a,b,R⟩]) x:=fun x hx=>K6 hx;have an:∀k,aa k->o.heap[k]?=w.heap[k]?:=fun k hk=>e4.ext.same k (.inr hk);have a6:aB P o aa A (s.heap++[.loop ⟨.ready,none,n,G.toList,a,b,R⟩]) (.map s.heap.length) (.func (.yield l) #[] #[]):=by
   simp only[aB,bO,bU];refine⟨by simp[hd],fun W=>?_,fun _=>by rw[e3]⟩;obtain⟨bg,ap,W⟩:=W;simp at ap;subst ap;exact W.elim
  have a7:aE (aI (s.heap++[.loop ⟨.ready,none,n,G.toList,a,b,R⟩])) (.map s.heap.length):=by
   simp only[aE];exact⟨.loop ⟨.ready,none,n,G.toList,a,b,R⟩,by simp,trivial⟩
  have aK:=pg (pg (bB.mono (fun _ x=>x) an ai _ _ av aW) (b:=[.map s.heap.length]) (y:=[.func (.yield l) #[] #[]]) (by simp only[bB];exact⟨_,_,rfl,a6,rfl⟩)) (bB.mono (fun _ x=>x) an ai _ _ au aO);have aG:=jL (jL (aS.mono ak _ av) (b:=[.map s.heap.length]) (by simp only[aS];exact⟨a7,trivial⟩)) (aS.mono ak _ au);have aZ:(invoke (.fn (.func g) H.toArray) (J.toArray++#[.func (.yield l) #[] #[]])).run P o=.ok (.enter g (J++[(.func (.yield l) #[] #[]:cB)]++H).toArray) o:=by
   have:=aT (J++[(.func (.yield l) #[] #[]:cB)]++H).toArray o;simp only[invoke];rw[<-this];congr 2;simp
  have a4:(resolve (Act.eval ⟨t,ds⟩) (rangeCall f l) 0).run P o=.ok (⟨.fn (.func g) H.toArray,J.toArray++#[.func (.yield l) #[] #[]]⟩:db) o:=by
   have al:(Act.eval ⟨t,ds⟩) f=fH t f:=by cases f<;>rfl
   have aQ:(rangeCall f l).args.map (Act.eval ⟨t,ds⟩)=#[.func (.yield l) #[] #[]]:=by simp[Act.eval]
   simp only[resolve,aQ];simp only[al,aX,Deferred.ofValue];rfl
  have aU:=stepR_rangeFunc (P:=P) (b:=fr) (a:=⟨t,ds⟩) (k:=k) (cs:=cs) (w:=w) (g:=f) (ps:=G) (assign:=a) (body:=b) e1 a4 aZ;obtain⟨e,ae,bd,⟨bc,X,U,al,g1,g2,g3⟩,aH,bf,a1⟩:=aP o aa p A _ e2 aK aG (fr.atR ⟨t,mk++ds⟩ (.inRangeFunc l::k)::cs);subst al;unfold iZ at af
  split at af
  case h_2=>exact af.elim
  rename_i L aq;obtain⟨aN,Z⟩:=af;obtain⟨rec,aw,ba,bb,bh,bi,bj,bk,bl,ax⟩:=C7 g1.rel aq .exhausted L.pending;have aC:aI (s.heap++[.loop ⟨.ready,none,n,G.toList,a,b,R⟩]) (s.heap.length,0):=⟨.loop ⟨.ready,none,n,G.toList,a,b,R⟩,by simp,trivial⟩
  have aM:X.al s.heap.length=l:=((g1.step.loop _ aC ⟨_,aq⟩).2).trans e3;rw[aM]at aw ax;have aR:=run_endLoop (P:=P) aw (by rw[ba];exact aN);have S:dp P (lone (bD fr t ds (.code (.rangeFunc f G a b)::k)) cs w) (lone (bD fr t (mk++ds) ((rec.pending.map Item.code).toList++k)) cs (ae.putObj l (.loop {rec with state:=.exhausted}))):=by
   refine(g9 aU).trans (ha aH ?_);refine(g9 (step_leave_returned a1)).trans ?_;rw[finish_atR_inRangeFunc];exact .one (stepR_endRangeFunc aR)
  have S:dp P (lone (bD fr t ds (.code (.rangeFunc f G a b)::k)) cs w) (lone (bD fr t (mk++ds) ((L.pending.map Item.code).toList++k)) cs (ae.putObj l (.loop {rec with state:=.exhausted,pending:=L.pending}))):=by
   rw[<-bb];exact S
  have V:bY P p aa o A (s.heap++[.loop ⟨.ready,none,n,G.toList,a,b,R⟩]) U _ X _:=g1.trans ax;have am:cS P n p U X ⟨s.env,ab.set s.heap.length (.loop {L with st:=.exhausted})⟩ t (ae.putObj l (.loop {rec with state:=.exhausted,pending:=L.pending})):=by
   refine⟨V.rel,fun x=>?_,fun x=>?_,i.size⟩
   ·exact aB.mono V.bR (fun k hk=>V.ext.same k (.inr hk)) V.step _ _ (aE.mono ak _ (i.gH x)) (aB.mono (fun _ x=>x) an ai _ _ (i.gH x) (i.env x))
   ·exact aE.mono V.fp _ (aE.mono ak _ (i.gH x))
  have aj:dS N ah aa w β s.heap p U (ae.putObj l (.loop {rec with state:=.exhausted,pending:=L.pending})) X (ab.set s.heap.length (.loop {L with st:=.exhausted})):=e4.trans V.fw;have W:Marks fr ah w p U (ae.putObj l (.loop {rec with state:=.exhausted,pending:=L.pending})) ds (mk++ds):=e5.trans e4 (Marks.refl _ _ _ _ _ _) V.fw;unfold kr at Z
  split at Z
  ·rename_i T;rw[T]at S;exact⟨.normal,_,p,U,X,t,_,mk++ds,Z,by rw[T];exact S,am,aj,W⟩
  ·rename_i id T;rw[T]at S;exact⟨.exit id,_,p,U,X,t,_,mk++ds,Z,⟨k,rfl,by rw[T];exact S⟩,am,aj,W⟩
  ·rename_i T;rw[T]at S;exact⟨.ret,_,p,U,X,t,_,mk++ds,Z,⟨k,by rw[T];exact S⟩,am,aj,W⟩
  ·exact Z.elim
 | .goto _,_,_,_,_,_,_,_,_,_,_,h,_,_| .refuse _,_,_,_,_,_,_,_,_,_,_,h,_,_=>by simp[cg]at h
end
end Go.au
namespace Go.au
variable[Gl]
def iQ(i:Nat):List AV->Env
 |[]=>[]
 |v::r=>(i,v)::iQ (i+1) r
def pT(P:da)(s:St):dl->Option AV
 | .tmp t=>some (aN s.env t)
 | .cell a T=>match aN s.env a with
  | .ptr b path=>match s.heap[b]? with
   |some (.box _ t)=>match fe t path with
    |some v=>if kindOf P T=ad v then some v else none
    |none=>none
   |_=>none
  |_=>none
def fK(P:da)(s:St):List dl->Option (List AV)
 |[]=>some []
 |r::rs=>match pT P s r,fK P s rs with
  |some v,some vs=>some (v::vs)
  |_,_=>none
def oneOf:List AV->AV
 |[v]=>v
 |vs=>match dO vs with
  |some l=>.p (.aG l)
  |none=>.aG vs
def jf(f:AV->Option PV):List AV->Option (List PV)
 |[]=>some []
 |v::vs=>match f v,jf f vs with
  |some p,some a=>some (p::a)
  |_,_=>none
def et(H:Heap):Nat->AV->Option PV
 |0,.p v=>some v
 |0,_=>none
 |n+1,x=>match x with
  | .p v=>some v
  | .sl b aA ai off len=>match H[b]? with
   |some (.arr k e c es)=>
    if aA=e/\ai=c/\off+len<=es.length then
     if k.gr=true/\es=[]then some .aP else
     match jf (et H n) ((es.drop off).take len)with
     |some d=>some (.bP (k== .exact&&off+len==es.length) d)
     |none=>none
    else none
   |_=>none
  | .ptr b path=>match H[b]? with
   |some (.box _ t)=>match fe t path with
    |some s=>match et H n s with
     |some p=>some (.cE p)
     |none=>none
    |none=>none
   |_=>none
  | .map b=>match H[b]? with
   |some (.map _ es)=>some (.fo es)
   |_=>none
  | .func f fi ca=>match jf (et H n) fi,jf (et H n) ca with
   |some a,some b=>some (.func f a b)
   |_,_=>none
  | .st u fs=>match jf (et H n) fs with
   |some l=>some (.st u l)
   |none=>none
  | .aG vs=>match jf (et H n) vs with
   |some l=>some (.aG l)
   |none=>none
  | .b6 _ _ _ _ _=>none
section
variable{P:da}{w:cN}{aa ah:Nat->Prop}{β:Bd}{H:Heap}
def Aj(aa:Nat->Prop)(β:Bd)(H:Heap)(k:Nat):Prop:=aa k\/∃(b:Nat)(o:Obj),H[b]?=some o/\o.live/\β.al b=k
theorem Lo:∀{n:Nat}{v:AV}{p:PV},et H n v=some p->(ad v=aL p)
 |0,v,p,h=>by
  cases v<;>simp[et]at h;subst h;rfl
 |n+1,v,p,h=>by
  cases v<;>simp only[et]at h
  case p v=>simp at h;subst h;rfl
  case b6=>simp at h
  case sl b aA ai off len=>
   split at h
   ·split at h
    ·split at h
     ·simp at h;subst h;rfl
     ·split at h
      ·simp at h;subst h;rfl
      ·simp at h
    ·simp at h
   ·simp at h
  case ptr b path=>
   split at h
   ·split at h
    ·split at h
     ·simp at h;subst h;rfl
     ·simp at h
    ·simp at h
   ·simp at h
  all_goals
   split at h
   ·simp at h;subst h;rfl
   ·simp at h
theorem J0{v:AV}{p:PV}{cs:List cB}(hs:ad v=aL p)(hc:br P w aa β H v cs){I:Nat->Prop}(h:∀x,aB P w aa β H v x->aD P w I p x):aR P w I p cs:=by
 cases a:ad v with
 |bad=>exact((nS hc).2 a).elim
 |leaf=>
  obtain⟨c,rfl,b⟩:=(C0 a cs).1 hc;exact(tO (hs▸a) _).2 ⟨c,rfl,h _ b⟩
 |agg u=>exact(wO (hs▸a) cs).2 (h _ ((N7 a cs).1 hc))
section lists
variable{f:AV->Option PV}{I:Nat->Prop}(hf:∀v p,f v=some p->ad v=aL p/\(aE (aI H) v->∀x,aB P w aa β H v x->aD P w I p x))
include hf
theorem yU:∀{vs:List AV}{a:List PV},jf f vs=some a->aS (aI H) vs->∀b,bB P w aa β H vs b->bt P w I a b
 |[],a,h,_,b,hx=>by
  simp[jf]at h;subst h;simpa[bB,bt]using hx
 |v::vs,a,h,c,b,hx=>by
  simp only[jf]at h
  split at h
  case h_2=>simp at h
  rename_i q g hq d;simp at h;subst h;simp only[aS]at c;simp only[bB]at hx;obtain⟨y,e,rfl,k1,k2⟩:=hx;simp only[bt];exact⟨y,e,rfl,(hf _ _ hq).2 c.1 _ k1,yU d c.2 _ k2⟩
theorem Cg:∀{vs:List AV}{b:List PV},jf f vs=some b->aS (aI H) vs->∀l a,bM P w aa β H l vs a->bg P w I l b a
 |[],b,h,_,l,a,hx=>by
  simp[jf]at h;subst h;cases l<;>simp_all [bM,bg]
 |v::vs,b,h,d,l,a,hx=>by
  simp only[jf]at h
  split at h
  case h_2=>simp at h
  rename_i q g hq e;simp at h;subst h;simp only[aS]at d;cases l with
  |nil=>simp[bM]at hx
  |cons m l=>
   simp only[bM]at hx;obtain⟨c,cs,rfl,k1,k2,k3⟩:=hx;simp only[bg];exact⟨c,cs,rfl,J0 (hf _ _ hq).1 k1 ((hf _ _ hq).2 d.1),k2,Cg e d.2 _ _ k3⟩
end lists
theorem vN(e:bS P w aa β H ah):∀(n:Nat)(v:AV)(p:PV),et H n v=some p->aE (aI H) v->∀x,aB P w aa β H v x->aD P w (Aj aa β H) p x
 |0,v,p,h,_,x,hx=>by
  cases v<;>simp[et]at h;subst h;simp only[aB]at hx;exact aD.mono (fun _=>.inl) (fun _ _=>rfl) _ _ hx
 |n+1,v,p,h,g,x,hx=>by
  have hf:∀v p,et H n v=some p->ad v=aL p/\(aE (aI H) v->∀x,aB P w aa β H v x->aD P w (Aj aa β H) p x):=fun v p h=>⟨Lo h,vN e n v p h⟩
  cases v<;>simp only[et]at h
  case p v=>
   simp at h;subst h;simp only[aB]at hx;exact aD.mono (fun _=>.inl) (fun _ _=>rfl) _ _ hx
  case b6=>simp at h
  case sl b aA ai off len=>
   split at h
   case h_2=>simp at h
   rename_i k ae Y y d
   split at h
   case isFalse=>simp at h
   rename_i L;obtain⟨rfl,rfl,z⟩:=L;simp only[aB]at hx;obtain⟨_,hx⟩:=hx;simp only[bU]at hx;obtain⟨v1,v2,v3⟩:=hx k y d
   split at h
   ·rename_i r;simp at h;subst h;simp[aD,v2 r]
   ·rename_i r
    split at h
    case h_2=>simp at h
    rename_i W O;simp at h;subst h;rw[v3 r];rcases e.cF b _ d with hold|⟨cs,T,C,rest,i,j,B,G,Z,I,ab,ac⟩
    ·exact(r hold).elim
    obtain⟨a,m,c,e1,e2,e3,e4,e5⟩:=jM j off len v1;have R:aS (aI H) ((y.drop off).take len):=by
     have:=e.refs b _ d;rw[cL];intro v S;exact cL.1 this v (hN (hM S))
    have M:((y.drop off).take len).length=len:=by simp;omega
    have k1:=Cg hf O R _ _ e2;have A:W.length=len:=by have:=(vE k1).2.1;simp at this;omega
    simp only[aD];refine⟨β.al b,off*ai,β.cap b-off,ai,m,by rw[A,<-M];exact k1,fun _=>.inr ⟨b,_,d,r,rfl⟩,?_,?_,?_,none,.inl rfl,?_⟩
    ·rw[<-e3];exact lY i (post:=c.flatten++rest) (by rw[B,e1];simp)
    ·intro hf;simp at hf;rw[A,I hf.1];omega
    ·rw[A];omega
    ·rw[A]
  case ptr b path=>
   split at h
   case h_2=>simp at h
   rename_i fz t d
   split at h
   case h_2=>simp at h
   rename_i s hs
   split at h
   case h_2=>simp at h
   rename_i q hq;simp at h;subst h;simp only[aB]at hx;obtain⟨_,hx⟩:=hx;simp only[bU]at hx;obtain⟨X,V,o,rfl,N,hx⟩:=hx;obtain⟨rfl,rfl⟩:=hx (.inl ⟨fz,_,d⟩);obtain⟨cs,T,i,j,B,G⟩:=e.cF b _ d;obtain⟨pre,xs,post,e1,e2,e3,_⟩:=pI j hs N;have Q:aE (aI H) s:=vY hs (e.refs b _ d);simp only[aD];refine⟨β.al b,V,xs,J0 (Lo hq) e3 (vN e n _ _ hq Q),.inr ⟨b,_,d,trivial,rfl⟩,?_,rfl⟩;rw[<-e2];exact lY i e1
  case map b=>
   split at h
   case h_2=>simp at h
   rename_i fz y d;simp at h;subst h;simp only[aB]at hx;obtain⟨_,hx⟩:=hx;simp only[bU]at hx;have hx:=hx.1 ⟨_,d,trivial⟩;obtain⟨E,clock,i,j,B⟩:=e.cF b _ d;simp only[aD];exact⟨β.al b,E,clock,.inr ⟨b,_,d,trivial,rfl⟩,i,cH.mono (fun _=>.inl) (fun _ _=>rfl) _ _ j,hx⟩
  case func f a b=>
   split at h
   case h_2=>simp at h
   rename_i a' b' J K;simp at h;subst h;simp only[aE]at g;simp only[aB]at hx;obtain⟨F,D,k1,k2,k3⟩:=hx;simp only[aD];exact⟨F,D,yU hf J g.1 _ k1,yU hf K g.2 _ k2,k3⟩
  case st u fs=>
   split at h
   case h_2=>simp at h
   rename_i l z;simp at h;subst h;simp only[aE]at g;simp only[aB]at hx;obtain⟨U,C,k1,k2,k3⟩:=hx;simp only[aD];exact⟨U,C,k1,Cg hf z g _ _ k2,k3⟩
  case aG vs=>
   split at h
   case h_2=>simp at h
   rename_i l z;simp at h;subst h;simp only[aE]at g;simp only[aB]at hx;obtain⟨xs,k1,k2⟩:=hx;simp only[aD];exact⟨xs,yU hf z g _ k1,k2⟩
end
section
variable{P:da}{ag:dz->Bool}{fit:Nat->Array Oper->Bool}
theorem Ce:∀(args:List AV)(i x:Nat),aN (iQ i args) x=if i<=x then(args[x-i]?).getD (.p .undef)else .p .undef
 |[],i,x=>by simp[iQ,aN]
 |v::r,i,x=>by
  simp only[iQ,aN,Ce r]
  by_cases h:x=i
  ·subst h;simp
  ·by_cases b:i<=x
   ·have a:i+1<=x:=by omega
    simp only[h,b,a,if_true,if_false];rw[show x-i=(x-(i+1))+1 by omega,hL]
   ·have a:¬i+1<=x:=by omega
    simp[h,b,a]
theorem tP{w:cN}{aa:Nat->Prop}{β:Bd}{H:Heap}:∀{vs:List AV}{xs:List cB},bB P w aa β H vs xs->xs.length=vs.length/\∀i:Nat,aB P w aa β H ((vs[i]?).getD (.p .undef)) ((xs[i]?).getD undef)
 |[],xs,h=>by simp only[bB]at h;subst h;simp[aB,aD]
 |v::vs,xs,h=>by
  simp only[bB]at h;obtain⟨y,c,rfl,a,b⟩:=h;have:=tP b;refine⟨by simp[this.1],fun i=>?_⟩;cases i with
  |zero=>simpa using a
  |succ i=>simpa using this.2 i
theorem Wq{ah aa:Nat->Prop}{β:Bd}{w:cN}{H:Heap}{args:List AV}{a:List cB}{n:Nat}(f:bS P w aa β H ah)(d:bB P w aa β H args a)(g:aS (aI H) args)(i:args.length<=n):
 cS P n ah aa β ⟨iQ 0 args,H⟩ (a.toArray++bo (n-a.length) undef) w:=by
 obtain⟨b,c⟩:=tP d;refine⟨f,fun x=>?_,fun x=>?_,by simp[b];omega⟩
 ·have e:(a.toArray++bo (n-a.length) undef).getD x undef=(a[x]?).getD undef:=by
   rw[b3,<-cb];simp only[Array.toList_append,Array.toList_replicate]
   by_cases hx:x<a.length
   ·rw[List.getElem?_append_left (by simpa using hx)]
   ·rw[List.getElem?_append_right (by simpa using hx)];simp only[hv];rw[List.getElem?_eq_none (by simpa using hx)]
    split<;>rfl
  rw[e,Ce];simpa using c x
 ·rw[Ce];simp only[Nat.zero_le,if_true,Nat.sub_zero];cases h:args[x]? with
  |none=>simp[aE]
  |some v=>exact cL.1 g v (hA h)
theorem Jf{w:cN}{aa:Nat->Prop}{β:Bd}{H:Heap}{T:c6}{v:AV}{al off:Nat}{a:List cB}(hk:kindOf P T=ad v)(f:br P w aa β H v a)(hc:gP w al off a):
 ∃g,(loadVar T ⟨al,off,none⟩).run P w=.ok g w/\aB P w aa β H v g:=by
 obtain⟨o,n⟩:=nS f;have m:∀j,(⟨al,off,none⟩:Addr).add j=⟨al,off+j,none⟩:=by intro j;unfold Addr.add;split<;>simp_all
 unfold kindOf at hk;cases hs:ad v with
 |bad=>exact(n hs).elim
 |leaf=>
  rw[hs]at hk;obtain⟨c,rfl,e⟩:=(C0 hs a).1 f;refine⟨c,?_,e⟩;have h:=hc 0 (by simp);simp only[h4,List.getElem_cons_zero]at h;have b:(isAgg T).run P w=.ok false w:=by
   cases hu:P.underlying T with
   |none=>simp[hu]at hk
   |some d=>
    cases d<;>simp only[hu]at hk<;>first
     |(simp[isAgg,cA hu];done)
     |(split at hk<;>simp at hk)
  simp[loadVar,b,h]
 |agg u=>
  rw[hs]at hk;have e:=(N7 hs a).1 f;refine⟨.agg a.toArray,?_,e⟩;have b:(isAgg T).run P w=.ok true w/\P.cellsOf T=a.length:=by
   rw[o,hs];cases hu:P.underlying T with
   |none=>simp[hu]at hk
   |some d=>
    cases d<;>simp only[hu]at hk<;>first
     |(split at hk
       ·rename_i hc;simp at hk;subst hk;simp at hc;refine⟨by simp[isAgg,cA hu],hc.2⟩
       ·simp at hk)
     |(split at hk<;>simp at hk)
  obtain⟨i,hi⟩:∃i,P.info? T=some i:=by
   cases hi:P.info? T with
   |none=>
    have l:=b.1;simp[isAgg,underlying,gm,hi]at l
   |some i=>exact⟨i,rfl⟩
  have q:(sizeOf T).run P w=.ok a.length w:=by
   rw[<-b.2];simp[sizeOf,typeInfo,hi,gl]
  have p:=run_loadCells_list (P:=P) w ⟨al,off,none⟩ a (fun j x hx=>by
   rw[m];have k:j<a.length:=(hl.1 hx).1;rw[hc j k];rw[hr k]at hx;exact hx)
  simp[loadVar,b.1,q,p]
theorem Wc{n:Nat}{ah aa:Nat->Prop}{β:Bd}{s:St}{t:Array cB}{w:cN}(h:cS P n ah aa β s t w){g:dl}{v:AV}(c:pT P s g=some v):
 ∃e,(match g with
  | .tmp x=>(pure (t.getD x undef):Sem cB)
  | .cell a T=>do loadVar T (<-asAddr (t.getD a undef))).run P w=.ok e w/\aB P w aa β s.heap v e/\aE (aI s.heap) v:=by
 cases g with
 |tmp x=>
  simp[pT]at c;subst c;exact⟨_,rfl,h.env x,h.gH x⟩
 |cell a T=>
  simp only[pT]at c;have d:=h.env a
  split at c
  case h_2=>simp at c
  rename_i b B k;rw[k]at d
  split at c
  case h_2=>simp at c
  rename_i fz r f
  split at c
  case h_2=>simp at c
  rename_i v' hs
  split at c
  case isFalse=>simp at c
  rename_i hc;simp at c;subst c;simp only[aB]at d;obtain⟨_,d⟩:=d;simp only[bU]at d;obtain⟨y,q,o,p,m,d⟩:=d;obtain⟨rfl,rfl⟩:=d (.inl ⟨fz,r,f⟩);obtain⟨cs,u,i,j,z,A⟩:=h.heap.cF b _ f;obtain⟨pre,xs,post,e1,e2,e3,_⟩:=pI j hs m;have l:gP w (β.al b) q xs:=by rw[<-e2];exact lY i e1
  obtain⟨e,k1,k2⟩:=Jf hc e3 l;refine⟨e,?_,k2,vY hs (h.heap.refs b _ f)⟩;simp only[p,asAddr];simp[k1]
theorem Ji{n:Nat}{ah aa:Nat->Prop}{β:Bd}{s:St}{t:Array cB}{w:cN}(h:cS P n ah aa β s t w):∀{d:List dl}{vs:List AV},fK P s d=some vs->
 ∃c:List cB,(d.mapM (fun i:dl=>match i with
  | .tmp x=>(pure (t.getD x undef):Sem cB)
  | .cell a T=>do loadVar T (<-asAddr (t.getD a undef)))).run P w=.ok c w/\bB P w aa β s.heap vs c/\aS (aI s.heap) vs
 |[],vs,b=>by
  simp[fK]at b;subst b;exact⟨[],by simp,by simp[bB],by simp[aS]⟩
 |r::d,vs,b=>by
  simp only[fK]at b
  split at b
  case h_2=>simp at b
  rename_i v j f g;simp at b;subst b;obtain⟨e,k1,k2,k3⟩:=Wc h f;obtain⟨c,g1,g2,g3⟩:=Ji h g;refine⟨e::c,?_,by simp only[bB];exact⟨e,c,rfl,k2,g2⟩,by simp only[aS];exact⟨k3,g3⟩⟩;simp only[hW,gA,k1,gy,g1];rfl
theorem Kv{w:cN}{aa:Nat->Prop}{β:Bd}{H:Heap}{vs:List AV}{a:List cB}(h:bB P w aa β H vs a)(d:aS (aI H) vs):
 aB P w aa β H (oneOf vs) (if h:a.toArray.size=1 then a.toArray[0]else .tuple a.toArray)/\aE (aI H) (oneOf vs):=by
 have b:=(tP h).1
 match vs,a,h with
 |[v],[c],h=>
  simp only[bB]at h;obtain⟨y,j,g,e,i⟩:=h;cases g;simp only[aS]at d;exact⟨by simpa[oneOf]using e,by simpa[oneOf]using d.1⟩
 |[],[],h=>exact⟨by simp[oneOf,dO,aB,aD,bt],by simp[oneOf,dO,aE]⟩
 |v1::v2::vs,c1::c2::a,h=>
  have hs:¬(c1::c2::a).toArray.size=1:=by simp
  rw[dif_neg hs];simp only[oneOf];cases f:dO (v1::v2::vs)with
  |none=>exact⟨by simp only[aB];exact⟨_,h,rfl⟩,by simpa only[aE]using d⟩
  |some l=>
   have:=lC f;rw[this]at h;exact⟨by simp only[aB,aD];exact⟨_,jz.1 h,rfl⟩,by simp[aE]⟩
 |[],_::_,_=>simp at b
 |[_],[],_=>simp at b
 |[_],_::_::_,_=>simp at b
 |_::_::_,[],_=>simp at b
 |_::_::_,[_],_=>simp at b
theorem takes{fr:dk}{cs:List dk}(c:fr.mode= .returning):∀(a:List Nat)(w:cN),a.Nodup->(∀r∈a,w.heap[r]?=some (.deferred (some [])))->
 ∃w',dp P (lone {fr with defers:=a.map mark} cs w) (lone {fr with defers:=[]} cs w')/\w'.heap.size=w.heap.size/\(∀k,k∉a->w'.heap[k]?=w.heap[k]?)/\(w'.os=w.os/\w'.output=w.output)
 |[],w,_,_=>⟨w,hb _ _,rfl,fun _ _=>rfl,rfl,rfl⟩
 |r::a,w,b,h=>by
  rw[List.nodup_cons]at b;have f:=h r (by simp);have hk:=run_takeDeferred (P:=P) f;have m:=(bv.1 f).1;obtain⟨w',g,i,j,l⟩:=takes c a (w.putObj r (.deferred none)) b.2 (fun x hx=>(hh (fun(e:x=r)=>b.1 (e▸hx))).trans (h x (by simp[hx])));refine⟨w',(g9 (step_collected (fr:={fr with defers:=(r::a).map mark}) (d:=mark r) (ds:=a.map mark) (by simp[c]) rfl rfl hk)).trans g,by simpa using i,fun k hk=>?_,l⟩;simp only[List.mem_cons,not_or]at hk;exact(j k hk.2).trans (hh hk.1)
theorem JA{N:Nat}{f:dz}{fn:Func}{c:Code}(A:lW P ag)(z:tI P ag fit)(hf:P.funcs[f]?=some fn)(G:fn.body=some c)(O:codeOk fit fn.ntmps c=true)
 {args:List AV}{H:Heap}{R:List AV->St->Prop}(L:args.length<=fn.ntmps)
 (U:cg P ag (fn.ntmps,N) c (fun e s=>(match e with
  | .exit _=>False
  |_=>True)/\∃vs,fK P s fn.results.toList=some vs/\R vs s) ⟨iQ 0 args,H⟩)
 {w:cN}{aa ah:Nat->Prop}{β:Bd}{d:List cB}(i:bS P w aa β H ah)(u:bB P w aa β H args d)(Q:aS (aI H) args):
 Calls P f d.toArray w fun e w'=>∃vs s a aF aJ t,e=.returned (if h:a.toArray.size=1 then a.toArray[0]else .tuple a.toArray)/\R vs s/\cS P fn.ntmps ah aF aJ s t w'/\dS N ah aa w β H ah aF w' aJ s.heap/\
  bB P w' aF aJ s.heap vs a/\aS (aI s.heap) vs:=by
 intro cs;have Y:=(tP u).1;obtain⟨g,j⟩:∃g:dk,g={fn:=f,tmps:=#[],todo:=[],defers:=[],mode:=.run,kind:=.normal}:=⟨_,rfl⟩
 have I:Frame.enter P f d.toArray .normal=bD g (d.toArray++bo (fn.ntmps-d.length) undef) [] [.code c]:=by
  subst j;simp[Frame.enter,bD,hf,G]
 obtain⟨e,s,W,aF,aJ,t,p,X,⟨B,vs,C,D⟩,o,m,b,E⟩:=mJ (fr:=g) (cs:=cs) (ds:=[]) A z c [] O U (Wq i u Q L) (fun l J=>by subst j;cases J);obtain⟨rs,v,M,n,Z,_⟩:=E;rw[hV]at v;subst v;rw[I]
 have q:∀todo,dp P (lone (bD g (d.toArray++bo (fn.ntmps-d.length) undef) [] [.code c]) cs w) (lone {bD g t (rs.map mark) todo with mode:= .returning} cs p)->
  ∃e w' fr,(∃vs s a aF aJ t,e=.returned (if h:a.toArray.size=1 then a.toArray[0]else .tuple a.toArray)/\R vs s/\cS P fn.ntmps ah aF aJ s t w'/\dS N ah aa w β H ah aF w' aJ s.heap/\
   bB P w' aF aJ s.heap vs a/\aS (aI s.heap) vs)/\Comes P (lone (bD g (d.toArray++bo (fn.ntmps-d.length) undef) [] [.code c]) cs w) (lone fr cs w') e/\fr.fn=f/\fr.leaving P w' e:=by
  intro todo aH;obtain⟨w',t1,t2,t3,t4⟩:=takes (P:=P) (fr:={bD g t (rs.map mark) todo with mode:=.returning}) (cs:=cs) rfl rs p M (fun r i=>(n r i).2.2.2);have T:∀k,aF k->w'.heap[k]?=p.heap[k]?:=fun k hk=>t3 k (fun i=>(n k i).2.2.1 hk);have y:cS P fn.ntmps ah aF aJ s t w':=⟨m.heap.shut b.er (R:=fun k=>k∈rs) (fun x hx=>⟨(n x hx).2.1,(n x hx).2.2.1⟩) t2 t3,fun x=>aB.mono (fun _ x=>x) T (cd.refl _ _) _ _ (m.gH x) (m.env x),m.gH,m.size⟩
  have F:dS N ah aa w β H ah aF w' aJ s.heap:=⟨fun _ x=>x,b.bR,b.fresh,⟨by rw[t2];exact b.ext.size,fun k hk=>(t3 k (fun K=>by
   have:=(n k K).1;have:=hk.elim (i.er k) (i.bR k);omega)).trans (b.ext.same k hk),t4.1.trans b.ext.io.1,t4.2.trans b.ext.io.2⟩,b.step,b.fp,b.loop⟩
  obtain⟨a,g1,g2,g3⟩:=Ji y C;have S:(results fn t).run P w'=.ok (if h:a.toArray.size=1 then a.toArray[0]else .tuple a.toArray) w':=by
   simp only[results];rw[b4];rw[gA,g7]
   erw [g1]
   rfl
  refine⟨_,w',{bD g t [] todo with mode:=.returning},⟨vs,s,a,aF,aJ,t,rfl,D,y,F,g2,g3⟩,ha aH t1,by subst j;rfl,?_⟩;subst j;exact⟨rfl,rfl,rfl,fn,hf,S⟩
 cases e with
 |exit id=>exact B.elim
 |normal=>
  exact q [] (ha o (.one (ei (by subst j;simp[stepG,stepG.exec,bD]))))
 |ret=>
  obtain⟨V,o⟩:=o;exact q (.code .ret::V) (ha o (.one (ei (by subst j;simp[stepG,stepG.exec,bD]))))
theorem LZ{f:dz}{fn:Func}{c:Code}(n:lW P ag)(m:tI P ag fit)(A:Enters P f)(hf:P.funcs[f]?=some fn)(z:fn.body=some c)(E:codeOk fit fn.ntmps c=true)
 {args:List PV}{v:PV}(D:args.length<=fn.ntmps)
 (I:cg P ag (fn.ntmps,0) c (fun e s=>(match e with
  | .exit _=>False
  |_=>True)/\∃vs,fK P s fn.results.toList=some vs/\et s.heap 9 (oneOf vs)=some v) ⟨iQ 0 (args.map .p),[]⟩):rZ P f args v:=by
 refine⟨A,fun w aa J C B y=>?_⟩;have F:bS P w aa ⟨id,id⟩ [] (fun k=>k<w.heap.size):=⟨by simp,by simp,by simp,C,fun _ h=>h,B⟩
 refine(JA n m hf z E (R:=fun vs s=>et s.heap 9 (oneOf vs)=some v) (by simpa using D) I F (jz.2 y) (iW _ _)).mono ?_;rintro e w' ⟨vs,s,K,aF,aJ,t,rfl,x,hs,d,G,H⟩;obtain⟨q,r⟩:=Kv G H;have u:=vN hs.heap _ _ _ x r _ q;refine⟨_,Aj aF aJ s.heap,rfl,fun k hk=>.inl (d.bR k hk),?_,?_,d.ext.size,fun k hk=>d.ext.same k (.inl hk),d.ext.io,u⟩
 ·rintro k (hk|⟨b,o,j,g,rfl⟩)
  ·rcases d.fresh k hk with h|h
   ·exact .inl h
   ·exact .inr (by omega)
  ·by_cases l:aJ.al b<w.heap.size
   ·
    left;have a:=hs.heap.cF b o j;have:aF (aJ.al b)\/¬(aJ.al b<w.heap.size):=by
     have key:∀fz,cG aF aJ (fun k=>k<w.heap.size) fz b->aF (aJ.al b)\/¬(aJ.al b<w.heap.size):=fun fz h=>by
      cases fz with
      |true=>exact .inl h
      |false=>exact .inr h.2
     cases o with
     |hole=>exact g.elim
     |dead=>exact g.elim
     |box fz t=>obtain⟨_,_,_,_,h,_⟩:=a;exact key _ h
     |arr k aA ai es=>
      rcases a with a|⟨_,_,_,_,_,_,_,_,_,_,h,_⟩
      ·exact(g a).elim
      ·exact key _ h
     |map fz es=>obtain⟨_,_,_,_,h⟩:=a;exact key _ h
     |dy ks vs=>obtain⟨_,_,_,_,_,h⟩:=a;exact key _ h
     |dC s pos=>obtain⟨_,_,_,h⟩:=a;exact key _ h
     |loop L=>obtain⟨_,_,_,_,_,_,h⟩:=a;exact key _ h
    rcases this with h|h
    ·rcases d.fresh _ h with i|i
     ·exact i
     ·exact(i l).elim
    ·exact(h l).elim
   ·exact .inr (by omega)
 ·rintro k (hk|⟨b,o,j,g,rfl⟩)
  ·exact hs.heap.bR k hk
  ·exact hs.heap.mQ j g
def uE(P:da)(a:List dl)(N:Nat)(H':Heap)(v:AV)(e:bC)(s:St):Prop:=
 (match e with
  | .exit _=>False
  |_=>True)/\∃vs,fK P s a=some vs/\oneOf vs=v/\(H'=s.heap\/(dt N s ⟨[],H'⟩/\aE (aI H') v))
theorem XS{f:dz}{fn:Func}{c:Code}(q:lW P ag)(p:tI P ag fit)(u:Enters P f)(hf:P.funcs[f]?=some fn)(j:fn.body=some c)(A:codeOk fit fn.ntmps c=true)
 {args:List AV}{H H':Heap}{v:AV}(z:args.length<=fn.ntmps)(G:cg P ag (fn.ntmps,H.length) c (uE P fn.results.toList H.length H' v) ⟨iQ 0 args,H⟩):cw P f H args H' v:=by
 refine⟨u,fun w aa ah β I B r C=>?_⟩;refine(JA q p hf j A (R:=fun vs s=>oneOf vs=v/\(H'=s.heap\/(dt H.length s ⟨[],H'⟩/\aE (aI H') v))) z G B r C).mono ?_;rintro e w' ⟨vs,s,g,aF,aJ,t,rfl,⟨rfl,a⟩,hs,m,F,E⟩;obtain⟨i,k⟩:=Kv F E;obtain⟨d,k1,k2,k3⟩:dS H.length ah aa w β H ah aF w' aJ H'/\bS P w' aF aJ H' ah/\aB P w' aF aJ H' (oneOf vs) (if h:g.toArray.size=1 then g.toArray[0]else .tuple g.toArray)/\aE (aI H') (oneOf vs):=by
  rcases a with rfl|⟨a,D⟩
  ·exact⟨m,hs.heap,i,k⟩
  ·refine⟨m.trans (a.fw (β:=aJ) (ah:=ah) (aa:=aF) (w:=w')),(a.rel hs).heap,?_,D⟩;rcases a with a|a
   ·have e:H'=s.heap:=by rw[<-a]
    rw[e];exact i
   ·exact aB.mono (fun _ x=>x) (fun _ _=>rfl) a.1.step _ _ k i
 refine⟨_,aJ,aF,rfl,⟨d.bR,d.fresh,d.ext,d.step.full,k1,fun x hx=>?_,fun b j=>?_⟩,k2,k3⟩
 ·obtain⟨o,n,y⟩:=hx;exact d.fp x (hl.1 n).1 ⟨o,n,y⟩
 ·obtain⟨L,l⟩:=j;exact d.loop b (hl.1 l).1 ⟨L,l⟩
theorem cS.post{n:Nat}{ah aa aF:Nat->Prop}{β aJ:Bd}{s:St}{H':Heap}{t:Array cB}{w w':cN}(h:cS P n ah aa β s t w)(a:bY P ah aa w β s.heap aF w' aJ H'):cS P n ah aF aJ ⟨s.env,H'⟩ t w':=
 ⟨a.rel,fun x=>aB.mono a.bR (fun k hk=>a.ext.same k (.inr hk)) a.step _ _ (h.gH x) (h.env x),fun x=>aE.mono a.fp _ (h.gH x),h.size⟩
def rz:List Tmp->List AV->Env->Env
 |t::ts,v::vs,e=>rz ts vs ((t,v)::e)
 |_,_,e=>e
def gR:bC->Option Code
 | .normal=>none
 | .exit id=>some (.exit id)
 | .ret=>some .ret
def tK(b:Nat)(K:Heap->AV->Prop)(e:bC)(s:St):Prop:=
 match s.heap[b]? with
 |some (.loop L)=>K (s.heap.set b (.loop {L with st:=if(gR e).isNone then .ready else .done,pending:=gR e})) (.p (.bool (gR e).isNone))
 |_=>False
def yF(P:da)(ag:dz->Bool)(q:Cx)(b:Nat)(body:Code)(K:Heap->AV->Prop)(e:bC)(s:St):Prop:=
 match e,s.heap[b]? with
 | .normal,some (.loop L)=>L.st=.ready/\cg P ag q body (tK b K) ⟨s.env,s.heap.set b (.loop {L with st:=.busy})⟩
 |_,_=>False
def zn(P:da)(ag:dz->Bool)(L:fh)(b:Nat)(args:List AV)(H:Heap)(K:Heap->AV->Prop):Prop:=
 cg P ag (L.n,H.length) L.assign (yF P ag (L.n,H.length) b L.body K) ⟨rz L.params args L.env,H⟩
def q8(ts:List Tmp)(a:List cB)(t:Array cB):Array cB:=(ts.zip a).foldl (fun t(p,v)=>t.setIfInBounds p v) t
theorem J8{w:cN}{aa:Nat->Prop}{β:Bd}{H:Heap}:∀{ts:List Tmp}{vs:List AV}{xs:List cB}{e:Env}{t:Array cB},(∀x∈ts,x<t.size)->bB P w aa β H vs xs->aS (aI H) vs->(∀x,aB P w aa β H (aN e x) (t.getD x undef))->(∀x,aE (aI H) (aN e x))->
 (q8 ts xs t).size=t.size/\(∀x,aB P w aa β H (aN (rz ts vs e) x) ((q8 ts xs t).getD x undef))/\(∀x,aE (aI H) (aN (rz ts vs e) x))
 |[],vs,xs,e,t,_,a,_,b,c=>by
  cases vs<;>exact⟨rfl,b,c⟩
 |p::ts,[],xs,e,t,_,a,_,b,c=>by
  simp only[bB]at a;subst a;exact⟨rfl,b,c⟩
 |p::ts,v::vs,xs,e,t,f,a,d,b,c=>by
  simp only[bB]at a;obtain⟨y,h,rfl,k1,k2⟩:=a;simp only[aS]at d;have g:p<t.size:=f p (by simp);obtain⟨g1,g2,g3⟩:=J8 (ts:=ts) (vs:=vs) (xs:=h) (e:=(p,v)::e) (t:=t.setIfInBounds p y) (fun x hx=>by simpa using f x (by simp[hx])) k2 d.2
   (fun x=>by
    simp only[aN]
    by_cases hx:x=p
    ·subst hx;simp[g];exact k1
    ·simp only[hx,if_false,b3,Array.getElem?_setIfInBounds_ne (Ne.symm hx)];simpa using b x)
   (fun x=>by
    simp only[aN]
    split
    ·exact d.1
    ·exact c x)
  exact⟨by simpa[q8]using g1,g2,g3⟩
theorem zip_toArray(a:List Tmp)(b:List cB)(t:Array cB):(a.toArray.zip b.toArray).foldl (fun t(p,v)=>t.setIfInBounds p v) t=q8 a b t:=by
 unfold q8;rw[<-ce];simp
theorem XQ(I:lW P ag)(G:tI P ag fit){b:Nat}{L:fh}{H H':Heap}{args:List AV}{v:AV}(f:H[b]?=some (.loop L))(aA:args.length=L.params.length)(aC:∀x∈L.params,x<L.n)
 (ar:codeOk fit L.n L.assign=true)(hc:codeOk fit L.n L.body=true)(aJ:zn P ag L b args H (fun af aS=>aS=v/\dt H.length ⟨[],af⟩ ⟨[],H'⟩)):iD P b H args H' v:=by
 refine⟨⟨L,f⟩,fun w aa ah β i B W av=>?_⟩;obtain⟨tmps,defers,fn,ap,M,aq,aW⟩:=B.cF b _ f;have s:b<H.length:=(hl.1 f).1;have ax:=(tP W).1;have j:=run_yield (P:=P) (args:=i.toArray) ap (by simp[ax,aA]);obtain⟨q1,aO,aP⟩:=J8 (ts:=L.params) (vs:=args) (xs:=i) (e:=L.env) (t:=tmps) (fun x hx=>by rw[M];exact aC x hx) W av aq (B.refs b _ f);rw[zip_toArray]at j;refine⟨fn,_,_,_,j,fun K ae=>?_⟩;obtain⟨c,z⟩:∃c:dk,c={fn:=fn,tmps:=#[],todo:=[],defers:=[],mode:=.run,kind:=.normal,roundOf:=some (β.al b)}:=⟨_,rfl⟩
 have g:c.roundOf=some (β.al b):=by subst z;rfl
 have A:c.kind=.normal:=by subst z;rfl
 have ay:Frame.round (β.al b) fn (q8 L.params i tmps) L.assign L.body .normal=bD c (q8 L.params i tmps) [] [.code L.assign,.beginRound,.code L.body]:=by subst z;rfl
 have V:rE H.length c β H:=fun l Z=>by
  rw[g]at Z;cases Z;exact⟨b,s,⟨L,f⟩,rfl⟩
 obtain⟨e1,s1,aV,aU,aT,t1,bd,am,g1,ao,g3,g4,g5⟩:=mJ (N:=H.length) (fr:=c) (cs:=K::ae) (ds:=[]) I G L.assign [.beginRound,.code L.body] ar aJ ⟨B,aO,aP,q1.trans M⟩ V;unfold yF at g1
 split at g1
 case h_2=>exact g1.elim
 rename_i q Q;obtain⟨g1,g6⟩:=g1;obtain⟨bb,m1,_,_,m4,m5⟩:=g5;have aH:=m5 (by rw[g];rfl);subst aH;obtain rfl:am=[]:=m1;have ak:aT.al b=β.al b:=(g4.step.loop b s ⟨_,f,trivial⟩ ⟨q,Q⟩).2;obtain⟨rec,ad,aQ,aR,a6,a7,a8,a9,ba,D⟩:=C7 g3.heap Q .busy q.pending;rw[ak]at ad D;have X:=run_beginRound (P:=P) ad (aQ.trans g1);have aw:({rec with state:=.busy}:Loop)={rec with state:=.busy,pending:=q.pending}:=by rw[<-aR]
 rw[aw]at X;have T:=g4.trans (D.fw (N:=H.length));obtain⟨e2,s2,r,p,m,t2,F,an,k1,k2,k3,k4,k5⟩:=mJ (N:=H.length) (fr:=c) (cs:=K::ae) (ds:=[]) I G L.body [] hc g6 (g3.post D) (V.fw T);unfold tK at k1
 split at k1
 case h_2=>exact k1.elim
 rename_i J S;obtain⟨rfl,Y⟩:=k1;obtain⟨bc,aL,_,_,n4,aM⟩:=k5;have aI:=aM (by rw[g];rfl);subst aI;obtain rfl:an=[]:=aL;have aX:∀k,r k->ah k:=fun k hk=>(m4 k ((n4 k hk).resolve_right (by simp))).resolve_right (by simp);have U:=T.trans k4;have al:m.al b=β.al b:=(U.step.loop b s ⟨_,f,trivial⟩ ⟨J,S⟩).2;obtain⟨E,ac,aY,aZ,a0,a1,a3,a4,a5,C⟩:=C7 k3.heap S (if(gR e2).isNone then .ready else .done) (gR e2);rw[al]at ac C;have u:=run_endRound (P:=P) (gR e2) ac;have au:=U.trans (C.fw (N:=H.length));have d:=au.trans (Y.fw (β:=m) (ah:=r) (aa:=p) (w:=F.putObj (β.al b) (.loop {E with state:=if(gR e2).isNone then .ready else .done,pending:=gR e2})));refine⟨.bool (gR e2).isNone,F.putObj (β.al b) (.loop {E with state:=if(gR e2).isNone then .ready else .done,pending:=gR e2}),m,p,?_,?_,by simp[aB,aD],by simp[aE]⟩
 ·rw[ay];refine ha (ao:dp P _ _) ((g9 (stepR_beginRound (b:=c) (a:=⟨t1,[]⟩) g X)).trans ?_);cases e2 with
  |normal=>exact ha (k2:dp P _ _) (.one (stepR_round_end (b:=c) (a:=⟨t2,[]⟩) g A u))
  |exit id=>
   obtain⟨aK,aj,a2⟩:=k2;exact ha a2 (.one (stepR_round_exit (b:=c) (a:=⟨t2,[]⟩) g A (by rw[aj];rfl) u))
  |ret=>
   obtain⟨aK,a2⟩:=k2;exact ha a2 (.one (stepR_round_ret (b:=c) (a:=⟨t2,[]⟩) g A u))
 ·have aF:cS P 0 r p m ⟨[],s2.heap.set b (.loop {J with st:=if(gR e2).isNone then .ready else .done,pending:=gR e2})⟩ #[] (F.putObj (β.al b) (.loop {E with state:=if(gR e2).isNone then .ready else .done,pending:=gR e2})):=
   ⟨C.rel,fun x=>by simp[aN,aB,aD],fun x=>by simp[aN,aE],rfl⟩
  have aG:=(Y.rel aF).heap;refine⟨d.bR,d.fresh,d.ext,d.step.full,aG.shut d.er (R:=fun _=>False) (fun _ h=>h.elim) rfl (fun _ _=>rfl),fun x hx=>?_,fun y j=>?_⟩
  ·obtain⟨o,ab,az⟩:=hx;exact d.fp x (hl.1 ab).1 ⟨o,ab,az⟩
  ·obtain⟨ai,O⟩:=j;exact d.loop y (hl.1 O).1 ⟨ai,O⟩
end
section
variable{P:da}
theorem MI{w:cN}{aa:Nat->Prop}{b:Bool}{v:cB}:aD P w aa (.bool b) v↔v=.bool b:=by simp[aD]
theorem DM{w:cN}{aa:Nat->Prop}{k:ee}{n:Int}{v:cB}:aD P w aa (.int k n) v↔v=.int k n:=by simp[aD]
theorem N4{w:cN}{aa:Nat->Prop}{s:List Nat}{v:cB}:aD P w aa (.str s) v↔∃bs:ByteArray,v=.string bs/\s=bs.data.toList.map (·.toNat):=by simp[aD]
theorem eJ{s:Sem cB}{w:cN}{a:cB}(h:s.run P w=.ok a w):(do pure (Next.value (<-s)):Sem Next).run P w=.ok (.value a) w:=by simp[h]
theorem vD{s:Sem cB}{w w':cN}{a:cB}(h:s.run P w=.ok a w'):(do pure (Next.value (<-s)):Sem Next).run P w=.ok (.value a) w':=by simp[h]
theorem yu{T:c6}{v:AV}{w:cN}{aa:Nat->Prop}{β:Bd}{H:Heap}{cs:List cB}(hk:kindOf P T=ad v)(d:br P w aa β H v cs):P.cellsOf T=cs.length/\∃i,P.info? T=some i/\i.size=cs.length:=by
 obtain⟨c,a⟩:=nS d;have b:P.cellsOf T=cs.length:=by
  rw[c,<-hk];unfold kindOf at hk⊢
  split at hk
  ·split at hk<;>rename_i hc
   ·simp at hc;rw[if_pos (by simpa using hc)];simp[bI,hc.2]
   ·exact(a hk.symm).elim
  ·split at hk<;>rename_i hc
   ·simp at hc;rw[if_pos (by simpa using hc)];simp[bI,hc]
   ·exact(a hk.symm).elim
  ·split at hk<;>rename_i hc
   ·simp at hc;rw[if_pos (by simpa using hc)];simp[bI,hc]
   ·exact(a hk.symm).elim
  ·exact(a hk.symm).elim
 refine⟨b,?_⟩;cases hi:P.info? T with
 |none=>
  have:kindOf P T=.bad:=by simp[kindOf,gm,hi]
  rw[this]at hk;exact(a hk.symm).elim
 |some i=>exact⟨i,rfl,by simpa[gl,hi]using b⟩
variable{o:Oper}{ρ:cC->AV}{base:Nat}
theorem Rs{x:cC}(a:o.op=.move x\/o.op=.assign x):bw P o ρ base {v:=ρ x}:=by
 refine bw.same fun H w aa ah β c d b _=>?_;refine⟨c x,?_,b x ?_⟩
 ·rcases a with a|a<;>simp[c9,a]
 ·rcases a with a|a<;>simp[a,ge]
theorem aIX{c a b:cC}{t:Bool}(d:o.op=.pick c a b)(hc:ρ c=.p (.bool t)):bw P o ρ base {v:=if t then ρ a else ρ b}:=by
 refine bw.same fun H w aa ah β g h f _=>?_;have e:=(f c (by simp[d,ge])).1;rw[hc]at e;simp only[aB,MI]at e;refine⟨if t then g a else g b,by simp[c9,d,e,asBool],?_⟩;cases t with
 |true=>exact f a (by simp[d,ge])
 |false=>exact f b (by simp[d,ge])
theorem Kc{t:cC}{i:Nat}{vs:List AV}{v:AV}(h:o.op=.extract t i)(e:ρ t=.aG vs\/∃l,ρ t=.p (.aG l)/\vs=l.map .p)(hi:vs[i]?=some v):bw P o ρ base {v}:=by
 refine bw.same fun H w aa ah β k n j _=>?_;obtain⟨d,f⟩:=j t (by simp[h,ge]);obtain⟨c,k1,k2,k3⟩:∃c,bB P w aa β H vs c/\k t=.tuple c.toArray/\aS (aI H) vs:=by
  rcases e with e|⟨l,e,rfl⟩
  ·rw[e]at d f;simp only[aB,aE]at d f;obtain⟨c,a,b⟩:=d;exact⟨c,a,b,f⟩
  ·rw[e]at d;simp only[aB,aD]at d;obtain⟨c,a,b⟩:=d;exact⟨c,jz.2 a,b,iW _ _⟩
 obtain⟨g1,g2⟩:=tP k1;have m:i<vs.length:=(hl.1 hi).1;have hx:c[i]?=some (c[i]'(by omega)):=hr (by omega);have g:=g2 i;rw[hi,hx]at g;refine⟨c[i]'(by omega),?_,by simpa using g,cL.1 k3 v (hA hi)⟩;simp only[c9,h,Instr.extract,k2];simp[hx]
theorem aIT{c:BinOp}{T j:c6}{x y:cC}{k d:ee}{a b:Int}{K:PV->Prop}(g:o.op= .binOp c T x y j)(hx:ρ x= .p (.int k a))(t:ρ y= .p (.int d b))(hk:k=d\/c= .shl\/c= .shr)
 (h:pZ c k a b K)(ak:List (Nat×Obj)):∃v,K v/\bw P o ρ base {v:=.p v,ak}:=by
 have key:∀v,K v->(∀w:cN,(binOp c T (.int k a) (.int d b)).run P w= .ok (match v with| .int k n=> .int k n| .bool b=> .bool b|_=>undef) w)->(∀w aa,aD P w aa v (match v with| .int k n=> .int k n| .bool b=> .bool b|_=>undef))->
  ∃v,K v/\bw P o ρ base {v:=.p v,ak}:=by
  intro v s r q;refine⟨v,s,bw.same fun H w aa ah β z u i _=>?_⟩;have e:=(i x (by simp[g,ge])).1;have f:=(i y (by simp[g,ge])).1;rw[hx]at e;rw[t]at f;simp only[aB,DM]at e f;refine⟨_,?_,by simp only[aB];exact q w aa,by simp[aE]⟩;simp only[c9,g,e,f];refine eJ ?_;have m:(eqGuard c T x y (.int k a) (.int d b)).run P w=.ok () w:=by
   unfold eqGuard
   split<;>simp
  simp[m,r w]
 cases c<;>simp only[pZ]at h
 case add|sub|mul|and|or|xor|andNot|eql|neq|lss|leq|gtr|geq=>
  obtain rfl:k=d:=by rcases hk with h|h|h<;>first|exact h|cases h
  exact key _ h (fun w=>by simp[binOp,gi,gj,Op.intCmp]) (fun w aa=>by simp[aD])
 case quo|rem=>
  obtain rfl:k=d:=by rcases hk with h|h|h<;>first|exact h|cases h
  exact key _ h.2 (fun w=>by simp[binOp,Op.intDiv,h.1]) (fun w aa=>by simp[aD])
 case shl|shr=>
  have l:¬b<0:=by omega
  exact key _ h.2 (fun w=>by simp[binOp,Op.shift,l]) (fun w aa=>by simp[aD])
theorem Fv{u:UnOp}{T:c6}{x:cC}{v r:PV}(c:o.op= .unOp u T x)(hx:ρ x= .p v)
 (h:(u=.not/\∃b,v=.bool b/\r=.bool (!b))\/(u=.neg/\∃k n,v=.int k n/\r=.int k (k.wrap (0-n)))\/
  (u=.xor/\∃k n,v=.int k n/\r=.int k (k.wrap (BitVec.ofInt k.bits (if k.signed then -1 else k.max)^^^BitVec.ofInt k.bits n).toNat))):bw P o ρ base {v:=.p r}:=by
 refine bw.same fun H w aa ah β f e d _=>?_;have a:=(d x (by simp[c,ge])).1;rw[hx]at a;simp only[aB]at a;rcases h with⟨rfl,b,rfl,rfl⟩|⟨rfl,k,n,rfl,rfl⟩|⟨rfl,k,n,rfl,rfl⟩
 ·rw[MI]at a;exact⟨_,by simp only[c9,c,a];exact eJ (by simp[gg];rfl),by simp[aB,aD],by simp[aE]⟩
 ·rw[DM]at a;exact⟨_,by simp only[c9,c,a];exact eJ (by simp[gg,gi];rfl),by simp[aB,aD],by simp[aE]⟩
 ·rw[DM]at a;exact⟨_,by simp only[c9,c,a];exact eJ (by simp[gg,gj];rfl),by simp[aB,aD],by simp[aE]⟩
end
section
variable{P:da}{w:cN}{aa ah:Nat->Prop}{β:Bd}{H:Heap}
variable{o:Oper}{ρ:cC->AV}{base:Nat}
theorem lU(H:Heap)(b:Nat)(o':Obj):bd H ([]++newAt b [o'])=H.set b o':=rfl
theorem WR{x:AV}{T:c6}(hs:ad x≠ .bad)(hx:jo T (ad x)=true)(hrefs:∀(H:Heap)(w:cN)(aa ah:Nat->Prop)(β:Bd)(d:cC->cB),bS P w aa β H ah->
 (∀y∈o.op.operands,aB P w aa β H (ρ y) (d y)/\aE (aI H) (ρ y))->∃a,aB P w aa β H x a/\aE (aI H) x/\
  (c9 d o).run P w=.ok (.value (.pointer (some ⟨w.heap.size,0,none⟩))) {w with heap:=w.heap.push (.cells a.cells T)}):
 bw P o ρ base {v:=.ptr base [],aV:=[.box false x]}:=by
 intro H w aa ah β d b m _ j;obtain⟨a,f,e,g⟩:=hrefs H w aa ah β d b m;have c:H[base]?=some .hole:=by simpa using j 0 (by simp)
 have i:=yO f hs;have aH:=yY (β:=β) c (.box false x) w.heap.size 0;have ak:∀y,aI H y->aI (H.set base (.box false x)) y:=ma c (fun _ h=>h.elim);have l:=tL (cap:=0) b c (ob:=.cells a.cells T) (o':=.box false x)
  ⟨a.cells,T,by simp[Bd.at],br.mono (fun _ x=>x) (fun k hk=>vQ _ _ (b.bR k hk)) aH _ _ e i,by
   simp only[cG,Bd.at,if_true,cx,if_false];exact⟨fun h=>h3 _ (b.bR _ h),fun h=>h3 _ (b.er _ h)⟩,by simp,hx⟩ (aE.mono ak _ e)
 refine⟨_,_,_,_,aa,g,.inl rfl,l,?_,?_⟩
 ·simp only[aB,bO,bU,lU];exact⟨rfl,_,_,0,rfl,rfl,fun _=>by simp[Bd.at]⟩
 ·simp only[aE,lU];exact⟨.box false x,by simp only;rw[hn (hl.1 c).1],trivial⟩
theorem aIQ{T:c6}{x:cC}(a:o.op=.box T x)(hs:ad (ρ x)≠.bad)(hx:jo T (ad (ρ x))=true):bw P o ρ base {v:=.ptr base [],aV:=[.box false (ρ x)]}:=by
 refine WR (T:=T) hs hx fun H w aa ah β e f d=>?_;obtain⟨b,c⟩:=d x (by simp[a,ge]);refine⟨e x,b,c,?_⟩;simp only[c9,a];simp[Instr.box,newVar,newRow]
theorem B5{w:cN}{aa:Nat->Prop}:∀(n:Nat)(T:c6)(cs:List cB)(t:PV),um P n T cs=some t->aR P w aa t cs/\kindOf P T=aL t
 |0,_,_,_,h=>by simp[um]at h
 |n+1,T,cs,t,h=>by
  have go:∀(b:List c6)(l:List Nat)(cs:List cB)(fs:List PV),pF P (um P n) b l cs=some fs->∃a,bg P w aa l fs a/\a.flatten=cs:=by
   intro b
   induction b with
   |nil=>
    intro l cs fs h;cases l with
    |nil=>
     cases cs with
     |nil=>simp[pF]at h;subst h;exact⟨[],by simp[bg]⟩
     |cons c cs=>simp[pF]at h
    |cons s i=>simp[pF]at h
   |cons T b q=>
    intro l cs fs h;cases l with
    |nil=>simp[pF]at h
    |cons s i=>
     simp only[pF]at h
     split at h
     case isFalse=>simp at h
     rename_i m
     split at h
     case h_2=>simp at h
     rename_i v vs g p
     split at h
     case isFalse=>simp at h
     rename_i r;simp at h;subst h;obtain⟨e,_⟩:=B5 n T _ v g;obtain⟨a,f,j⟩:=q i _ vs p;refine⟨cs.take s::a,by simp only[bg];exact⟨_,_,rfl,e,m,f⟩,?_⟩;simp[j]
  unfold um at h
  split at h
  ·rename_i hk
   split at h
   case h_2=>simp at h
   rename_i c
   split at h
   ·simp at h
   ·rename_i v o;simp at h;subst h;have g:=Jp (P:=P) (w:=w) (aa:=aa) c;have d:aL (ofConst c)=.leaf:=by
     unfold ofConst at o⊢
     split<;>simp_all [aL]
    exact⟨(tO d _).2 ⟨c,rfl,g⟩,by rw[hk,d]⟩
  ·rename_i u hk
   split at h
   case h_2=>simp at h
   rename_i l d
   split at h
   case h_2=>simp at h
   rename_i fs k;simp at h;subst h;obtain⟨a,e,f⟩:=go _ _ _ _ k;refine⟨by simp only[aR];exact⟨l,a,d,e,f.symm⟩,by simp[aL,hk]⟩
  ·simp at h
theorem pf{T:c6}{z:PV}(h:cT P T=some z):∃i a,P.info? T=some i/\i.zero=some a/\(∀(w:cN)(aa:Nat->Prop),aR P w aa z a.cells.toList)/\kindOf P T=aL z:=by
 unfold cT at h;cases hi:P.info? T with
 |none=>simp[hi]at h
 |some i=>
  simp only[hi,ii]at h;cases b:i.zero with
  |none=>simp[b]at h
  |some a=>
   simp only[b]at h
   split at h
   case isFalse=>simp at h
   exact⟨i,a,rfl,b,fun w aa=>(B5 40 T _ z h).1,(B5 (w:=default) (aa:=fun _=>True) 40 T _ z h).2⟩
theorem MT{T:c6}{z:PV}(h:cT P T=some z):∃a,(∀w:cN,(zeroValue T).run P w=.ok a w)/\∀(w:cN)(aa:Nat->Prop),aD P w aa z a:=by
 obtain⟨i,a,d,e,f,g⟩:=pf h;refine⟨a,fun w=>by simp[zeroValue,typeInfo,d,e],fun w aa=>?_⟩;have b:As a (aL z)=true:=by
  unfold cT at h;simp only[d,ii,e]at h
  split at h
  ·rename_i j;rw[<-g];exact j
  ·simp at h
 have hc:=f w aa;cases hs:aL z with
 |bad=>exact((nO hc).2 hs).elim
 |leaf=>
  rw[hs]at b;obtain⟨c,k1,k2⟩:=(tO hs _).1 hc;cases a<;>simp[As]at b<;>(simp[hg]at k1;subst k1;exact k2)
 |agg u=>
  rw[hs]at b;cases a<;>simp[As]at b;have:=(wO hs _).1 hc;simpa[hg]using this
theorem tJ{T:c6}{i:dg}{a:cB}(h:P.info? T=some i)(b:i.zero=some a)(w:cN):(zeroValue T).run P w=.ok a w:=by
 simp[zeroValue,typeInfo,h,b]
theorem X3{T:c6}{z:PV}(j:o.op=.alloc T)(m:cT P T=some z)(hx:jo T (aL z)=true):bw P o ρ base {v:=.ptr base [],aV:=[.box false (.p z)]}:=by
 obtain⟨i,b,d,e,f,q⟩:=pf m;intro H w aa ah β n a r _ g;have c:H[base]?=some .hole:=by simpa using g 0 (by simp)
 have l:(c9 n o).run P w=.ok (.value (.pointer (some ⟨w.heap.size,0,none⟩))) {w with heap:=w.heap.push (.cells b.cells T)}:=by
  simp only[c9,j];simp[Instr.alloc,tJ d e,newVar,newRow]
 have k:=tL (cap:=0) a c (ob:=.cells b.cells T) (o':=.box false (.p z))
  ⟨b.cells,T,by simp[Bd.at],by simp only[br];exact f _ _,by
   simp only[cG,Bd.at,if_true,cx,if_false];exact⟨fun h=>h3 _ (a.bR _ h),fun h=>h3 _ (a.er _ h)⟩,by simp,by simpa[ad]using hx⟩ (by simp[Obj.refs,aE])
 refine⟨_,_,_,_,aa,l,.inl rfl,k,?_,?_⟩
 ·simp only[aB,bO,bU,lU];exact⟨rfl,_,_,0,rfl,rfl,fun _=>by simp[Bd.at]⟩
 ·simp only[aE,lU];exact⟨.box false (.p z),by simp only;rw[hn (hl.1 c).1],trivial⟩
theorem Dp{T:c6}{a:cC}{v:AV}(h:o.op= .load T a){d:cC->cB}{al off:Nat}{c:List cB}(g:d a= .pointer (some ⟨al,off,none⟩))(hk:kindOf P T=ad v)
 (i:br P w aa β H v c)(hc:gP w al off c):∃b,(c9 d o).run P w=.ok (.value b) w/\aB P w aa β H v b:=by
 obtain⟨b,e,f⟩:=Jf hk i hc;refine⟨b,?_,f⟩;simp only[c9,h,Instr.loadAt,g,fl];simp[e]
theorem Ad{ai:Nat}{d:List AV}{g:List (List cB)}(h:Row P w aa β H ai d g){i:Nat}(hi:i<d.length):
 ∃a c post,g.flatten=a++c++post/\a.length=i*ai/\c.length=ai/\br P w aa β H d[i] c/\
  ∀e c',br P w aa β H e c'->c'.length=c.length->∃b,b.flatten=a++c'++post/\Row P w aa β H ai (d.set i e) b:=by
 obtain⟨a,c,post,j,k,o,f,l,m⟩:=tX h (hr hi);have n:c.length=ai:=by
  rw[hv]at f;rw[if_pos hi]at f;simpa using f.symm
 refine⟨a,c,post,j,?_,n,l,?_⟩
 ·rw[k,hp,h2 (by omega),ho]
 ·intro e c' hf hc;obtain⟨b,k1,k2⟩:=m e c' hf hc;exact⟨b,k1,by unfold Row;rw[List.length_set];exact k2⟩
theorem aIV{T:c6}{a:cC}(g:o.op= .load T a){H0:Heap}{K:aW->Prop}(h:od P T H0 (ρ a) K):
 ∃e,K e/\bw P o ρ base e/\(∀p∈e.ak,H0[p.1]?=some p.2)/\(∀p∈e.aK,p.1<H0.length/\p.2≠.hole):=by
 unfold od at h
 split at h
 ·rename_i b J m
  split at h
  case h_2=>exact h.elim
  rename_i fz t u
  split at h
  case h_2=>exact h.elim
  rename_i s hs;obtain⟨hk,h⟩:=h;refine⟨_,h,bw.same fun H w aa ah β C j n ak=>?_,by simpa using u,by simp⟩;obtain⟨d,y⟩:=n a (by simp[g,ge]);rw[m]at d;simp only[aB,bO,bU]at d;have f:H[b]?=some (.box fz t):=by simpa using ak
  obtain⟨_,E,I,B,x,r,d⟩:=d;obtain⟨rfl,rfl⟩:=d (.inl ⟨fz,t,f⟩);obtain⟨cs,D,k1,k2,k3,k4⟩:=j.cF b _ f;obtain⟨pre,xs,post,e1,e2,e3,_⟩:=pI k2 hs r;obtain⟨l,g1,g2⟩:=Dp g x hk e3 (by rw[<-e2];exact lY k1 e1);exact⟨l,g1,g2,vY hs (j.refs b _ f)⟩
 ·rename_i b aA ai i J m
  split at h
  case h_2=>exact h.elim
  rename_i k W S q u;obtain⟨rfl,rfl,hi,h⟩:=h
  split at h
  case h_2=>exact h.elim
  rename_i s hs;obtain⟨hk,h⟩:=h;refine⟨_,h,bw.same fun H w aa ah β C j n ak=>?_,by simpa using u,by simp⟩;obtain⟨d,y⟩:=n a (by simp[g,ge]);rw[m]at d;simp only[aB,bO,bU]at d;have f:H[b]?=some (.arr k aA ai q):=by simpa using ak
  have A:¬df k q:=fun G=>by rw[G.2]at hi;simp at hi
  obtain⟨_,E,I,B,x,r,d⟩:=d;obtain⟨rfl,rfl⟩:=d k q f A;rcases j.cF b _ f with hold|⟨cs,D,R,rest,k1,k2,k3,_⟩
  ·exact(A hold).elim
  obtain⟨M,c,L,N,O,U,Q,_⟩:=Ad k2 hi;obtain⟨pre,xs,post,e1,e2,e3,_⟩:=pI Q hs r;have F:gP w (β.al b) (i*ai+B) xs:=by
   have:cs.toList=(M++pre)++xs++(post++L++rest):=by rw[k3,N,e1];simp
   have z:=lY k1 this;rw[List.length_append,O,e2]at z;exact z
  obtain⟨l,g1,g2⟩:=Dp g x hk e3 F;exact⟨l,g1,g2,vY hs (cL.1 (j.refs b _ f) _ (hT hi))⟩
 ·rename_i t m;obtain⟨hk,h⟩:=h;refine⟨_,h,bw.same fun H w aa ah β C j n ak=>?_,by simp,by simp⟩;obtain⟨d,y⟩:=n a (by simp[g,ge]);rw[m]at d;simp only[aB,aD]at d;obtain⟨al,off,V,k1,k2,k3,k4⟩:=d;obtain⟨l,g1,g2⟩:=Dp (β:=β) (H:=H) (v:=.p t) g k4 (by simpa[ad]using hk) (by simpa only[br]using k1) k3;exact⟨l,g1,g2,by simp[aE]⟩
 ·exact h.elim
end
section
variable{P:da}{w:cN}{aa ah:Nat->Prop}{β:Bd}{H:Heap}
mutual
theorem N5:∀{v:PV}{cs:List cB},aR P w aa v cs->∀c∈cs,c.oneCell'=true
 | .undef,_,h| .aG _,_,h=>by simp[aR]at h
 | .bool _,_,h| .int _ _,_,h| .dM,_,h| .aP,_,h| .fF,_,h| .iv,_,h| .ga,_,h=>by simp only[aR]at h;subst h;simp[hd]
 | .str _,_,h=>by simp only[aR]at h;obtain⟨_,rfl,_⟩:=h;simp[hd]
 | .cE _,_,h=>by simp only[aR]at h;obtain⟨_,_,_,_,_,_,rfl⟩:=h;simp[hd]
 | .bP _ _,_,h=>by simp only[aR]at h;obtain⟨_,_,_,_,_,_,_,_,_,_,_,_,rfl⟩:=h;simp[hd]
 | .seq _,_,h=>by simp only[aR]at h;rcases h with⟨_,rfl⟩|⟨_,_,_,_,_,_,_,_,_,_,_,rfl⟩<;>simp[hd]
 | .fo _,_,h=>by simp only[aR]at h;obtain⟨_,_,_,_,_,_,rfl⟩:=h;simp[hd]
 | .func _ _ _,_,h=>by simp only[aR]at h;obtain⟨_,_,_,_,rfl⟩:=h;simp[hd]
 | .st u fs,_,h=>by
  simp only[aR]at h;obtain⟨l,a,b,d,rfl⟩:=h;exact MK d
theorem MK:∀{l:List Nat}{vs:List PV}{a:List (List cB)},bg P w aa l vs a->∀c∈a.flatten,c.oneCell'=true
 |[],[],_,h=>by simp only[bg]at h;subst h;simp
 |[],_::_,_,h=>by simp[bg]at h
 |_::_,[],_,h=>by simp[bg]at h
 |n::f,v::vs,a,h=>by
  simp only[bg]at h;obtain⟨c,cs,rfl,b,d,e⟩:=h;intro x hx;simp only[hw,hz]at hx;exact hx.elim (N5 b x) (MK e x)
end
mutual
theorem zB:∀{v:AV}{cs:List cB},br P w aa β H v cs->∀c∈cs,c.oneCell'=true
 | .p t,_,h=>by simp only[br]at h;exact N5 h
 | .ptr ..,_,h| .b6 ..,_,h| .sl ..,_,h| .map ..,_,h=>by simp only[br]at h;obtain⟨v,rfl,b,_⟩:=h;simpa using b
 | .func ..,_,h=>by simp only[br]at h;obtain⟨_,_,_,_,rfl⟩:=h;simp[hd]
 | .aG _,_,h=>by simp[br]at h
 | .st u fs,_,h=>by
  simp only[br]at h;obtain⟨l,a,b,d,rfl⟩:=h;exact ML d
theorem ML:∀{l:List Nat}{vs:List AV}{a:List (List cB)},bM P w aa β H l vs a->∀c∈a.flatten,c.oneCell'=true
 |[],[],_,h=>by simp only[bM]at h;subst h;simp
 |[],_::_,_,h=>by simp[bM]at h
 |_::_,[],_,h=>by simp[bM]at h
 |n::f,v::vs,a,h=>by
  simp only[bM]at h;obtain⟨c,cs,rfl,b,d,e⟩:=h;intro x hx;simp only[hw,hz]at hx;exact hx.elim (zB b x) (ML e x)
end
theorem qI(d:bS P w aa β H ah){b:Nat}{o o':Obj}(c:H[b]?=some o)(j:o.live)(l:o'.live)(m:∀v,o.has v->o'.has v){q new:Array cB}{T:c6}
 (i:w.heap[β.al b]?=some (.cells q T (0,0)))(e:¬aa (β.al b)/\¬ah (β.al b))(aH:cd β H β (H.set b o'))
 (n:ft P (w.setRow (β.al b) new) aa β (H.set b o') ah b o')(p:o'.refs (aI (H.set b o'))):
 bY P ah aa w β H aa (w.setRow (β.al b) new) β (H.set b o'):=by
 refine bY.set d (hl.1 c).1 (fun _ _=>⟨rfl,rfl⟩) (fun _ x=>x) (fun _ x=>.inl x) (fun k hk=>by rw[ej];exact d.bR k hk) (by rw[ej];exact h1 _)
  (fun k hk _=>eb w _ k _ (hk.resolve_right (fun h=>h l))) (fun _=>.inr ⟨rfl,⟨o,c,j⟩,.inr e.1,e.2⟩) aH n p (fun r v a f=>by rw[c]at a;cases a;exact m v f) (fun L g=>by obtain⟨_,_,_,a,_⟩:=d.cF b _ g;rw[i]at a;cases a)
theorem pB{b:Nat}{o o':Obj}(l:H[b]?=some o)(hk:(∃f g t B,o= .box f t/\o'= .box g B)\/(∃k v z e m,o= .arr k v z e/\o'= .arr k v z m/\e.length=m.length)\/(∃f g e m,o= .map f e/\o'= .map g m)\/(∃s p y,o= .dC s p/\o'= .dC s y)):
 cd β H β (H.set b o'):=by
 have u:b<H.length:=(hl.1 l).1;have j:∀x,x≠b->(H.set b o')[x]?=H[x]?:=fun x hx=>hB (Ne.symm hx);have i:(H.set b o')[b]?=some o':=hn u;refine⟨?_,?_,?_,?_,?_⟩
 ·rintro x _ ⟨fz,t,h⟩;refine⟨?_,rfl⟩
  by_cases hx:x=b
  ·subst hx;rw[i]at h;cases h;rcases hk with⟨f,g,t1,t2,c,a⟩|⟨_,_,_,_,_,_,a,_⟩|⟨_,_,_,_,_,a⟩|⟨_,_,_,_,a⟩
   ·exact⟨f,t1,by rw[l,c]⟩
   all_goals cases a
  ·rw[j x hx]at h;exact⟨fz,t,h⟩
 ·rintro x _ ⟨s,p,h⟩;refine⟨?_,rfl⟩
  by_cases hx:x=b
  ·subst hx;rw[i]at h;cases h;rcases hk with⟨f,g,t1,t2,c,a⟩|⟨_,_,_,_,_,_,a,_⟩|⟨_,_,_,_,_,a⟩|⟨s1,n,A,c,a⟩
   ·cases a
   ·cases a
   ·cases a
   ·exact⟨s1,n,by rw[l,c]⟩
  ·rw[j x hx]at h;exact⟨s,p,h⟩
 ·rintro x _ ⟨w,h,d⟩;refine⟨?_,rfl⟩
  by_cases hx:x=b
  ·subst hx;rw[i]at h;cases h;rcases hk with⟨f,g,t1,t2,c,a⟩|⟨_,_,_,_,_,_,a,_⟩|⟨f,g,e1,e2,c,a⟩|⟨s1,n,A,c,a⟩
   ·rw[a]at d;exact d.elim
   ·rw[a]at d;exact d.elim
   ·exact⟨o,l,by rw[c];trivial⟩
   ·rw[a]at d;exact d.elim
  ·rw[j x hx]at h;exact⟨w,h,d⟩
 ·intro x aA ai k e _ h
  by_cases hx:x=b
  ·subst hx;unfold eX at h⊢;rw[i]at h;cases h;rcases hk with⟨f,g,t1,t2,c,a⟩|⟨k0,v,z,q,C,c,a,r⟩|⟨_,_,_,_,_,a⟩|⟨_,_,_,_,a⟩
   ·cases a
   ·cases a;refine⟨k,q,by rw[l,c],by omega,?_,fun _=>⟨rfl,rfl⟩⟩;unfold df;rw[<-ht,<-ht,r]
   ·cases a
   ·cases a
  ·unfold eX at h⊢;rw[j x hx]at h;exact⟨k,e,h,h1 _,Iff.rfl,fun _=>⟨rfl,rfl⟩⟩
 ·rintro x _ ⟨L,h⟩;refine⟨?_,rfl⟩
  by_cases hx:x=b
  ·subst hx;rw[i]at h;cases h;rcases hk with⟨f,g,t1,t2,c,a⟩|⟨_,_,_,_,_,_,a,_⟩|⟨_,_,_,_,_,a⟩|⟨_,_,_,_,a⟩<;>cases a
  ·rw[j x hx]at h;exact⟨L,h⟩
variable{o:Oper}{ρ:cC->AV}{base:Nat}
theorem Km{T:c6}{a x:cC}(p:o.op= .store T a x){e:cC->cB}{al off:Nat}{b:List cB}{d:Array cB}{f:c6}(j:e a= .pointer (some ⟨al,off,none⟩))
 (hx:(e x).cells.toList=b)(q:P.cellsOf T=b.length/\∃i,P.info? T=some i/\i.size=b.length)(k:w.heap[al]?=some (.cells d f (0,0)))(n:∀c∈b,c.oneCell'=true)(m:off+b.length<=d.size):
 (c9 e o).run P w=.ok .skip (w.setRow al (d.toList.take off++b++d.toList.drop (off+b.length)).toArray):=by
 obtain⟨_,i,hi,l⟩:=q;have h:(sizeOf T).run P w=.ok b.length w:=by simp[sizeOf,typeInfo,hi,l]
 have g:=ed (P:=P) al off f b 0 d w k (by simpa using m) n;simp only[h4]at g;have r:(e x).cells.size=b.length:=by rw[<-hx];simp
 simp only[c9,p,Instr.storeAt,j,fl];simp[storeVar,h,r,hx,g]
theorem Cz(u:c6)(fs:List AV):ad (ib u fs)=.agg u:=by
 unfold ib;split<;>rfl
theorem Xt{t:AV}{c:List (c6×Nat)}{x s d:AV}(hs:fe t c=some s)(a:fX t c x=some d)(e:ad s=ad x):ad d=ad t:=by
 cases c with
 |nil=>
  simp only[fX,ip]at a;subst a;have:s=t:=by
   cases t<;>simp[fe]at hs<;>exact hs.symm
  rw[<-e,this]
 |cons p r=>
  obtain⟨u,i⟩:=p;cases t<;>simp only[fX]at a
  case p t=>
   split at a
   case isFalse=>simp at a
   rename_i b
   split at a
   case h_2=>simp at a
   split at a
   case h_2=>simp at a
   simp only[ip]at a;subst a;rw[Cz];simp[ad,b]
  case st u' fs=>
   split at a
   case isFalse=>simp at a
   rename_i b
   split at a
   case h_2=>simp at a
   split at a
   case h_2=>simp at a
   simp only[ip]at a;subst a;rw[Cz];simp[ad,b]
  all_goals simp at a
theorem YE{T:c6}{a x:cC}(z:o.op= .store T a x){H0:Heap}{K:aW->Prop}(h:nW P T H0 (ρ a) (ρ x) K):
 ∃e,K e/\bw P o ρ base e/\(∀p∈e.ak,H0[p.1]?=some p.2)/\(∀p∈e.aK,p.1<H0.length/\p.2≠.hole):=by
 unfold nW at h;obtain⟨hk,ac,h⟩:=h
 split at h
 ·rename_i b ap N
  split at h
  case h_2=>exact h.elim
  rename_i t B
  split at h
  case h_2=>exact h.elim
  rename_i s j hs r;obtain⟨J,h⟩:=h;refine⟨_,h,?_,by simpa using B,by simpa using(hl.1 B).1⟩;intro H w aa ah β f l D ak _;have d:H[b]?=some (.box false t):=by simpa using ak
  obtain⟨g,_⟩:=D a (by simp[z,ge]);obtain⟨ab,M⟩:=D x (by simp[z,ge]);rw[N]at g;simp only[aB,bO,bU]at g;obtain⟨_,al,Z,L,W,U,g⟩:=g;obtain⟨rfl,rfl⟩:=g (.inl ⟨false,t,d⟩);obtain⟨cs,A,k1,k2,k3,k4⟩:=l.cF b _ d;obtain⟨pre,xs,post,e1,e2,e3,e4⟩:=pI k2 hs U;have m:=yO ab ac;have q:(f x).cells.toList.length=xs.length:=by rw[(nS m).1,(nS e3).1,J]
  have ae:cs.size=pre.length+xs.length+post.length:=by
   have:=congrArg hE e1;simp at this;omega
  have C:=Km z W rfl (yu hk m) k1 (zB m) (by omega);have aV:(cs.toList.take Z++(f x).cells.toList++cs.toList.drop (Z+(f x).cells.toList.length))=pre++(f x).cells.toList++post:=by
   rw[e1,q,<-e2];simp
  rw[aV]at C;have aH:cd β H β (H.set b (.box false j)):=pB d (.inl ⟨_,_,_,_,rfl,rfl⟩);have Q:∀y,aI H y->aI (H.set b (.box false j)) y:=ma d (fun _ h=>h);have X:∀k,aa k->(w.setRow (β.al b) (pre++(f x).cells.toList++post).toArray).heap[k]?=w.heap[k]?:=fun k S=>eb w _ k _ (fun O=>k3.1 (O▸S));have V:=qI l d trivial (o':=.box false j) trivial (fun _ h=>h) k1 (new:=(pre++(f x).cells.toList++post).toArray) k3 aH
   ⟨_,A,em w _ _ _ A _ k1,br.mono (fun _ x=>x) X aH _ _ (vZ r (l.refs b _ d) M) (e4 _ _ _ r m q),k3,by simp,by rw[Xt hs r J];exact k4.2⟩
   (aE.mono Q _ (vZ r (l.refs b _ d) M))
  exact⟨_,_,_,β,aa,C,.inr ⟨rfl,rfl⟩,V,by simp[aB,aD,bt,undef],by simp[aE]⟩
 ·rename_i b aA ai i ap N
  split at h
  case h_2=>exact h.elim
  rename_i k az ax n B;obtain⟨rfl,rfl,ag,hi,h⟩:=h
  split at h
  case h_2=>exact h.elim
  rename_i s j hs r;obtain⟨J,h⟩:=h;refine⟨_,h,?_,by simpa using B,by simpa using(hl.1 B).1⟩;intro H w aa ah β f l D ak _;have d:H[b]?=some (.arr k aA ai n):=by simpa using ak
  obtain⟨g,_⟩:=D a (by simp[z,ge]);obtain⟨ab,M⟩:=D x (by simp[z,ge]);rw[N]at g;simp only[aB,bO,bU]at g;have I:¬df k n:=fun G=>by rw[G.2]at hi;simp at hi
  obtain⟨_,al,Z,L,W,U,g⟩:=g;obtain⟨rfl,rfl⟩:=g k n d I;rcases l.cF b _ d with hold|⟨cs,A,aw,rest,k1,k2,k3,k4,k5,k6,k7,k8⟩
  ·exact(I hold).elim
  have af:¬aa (β.al b)/\¬ah (β.al b):=by
   unfold cG at k7;rw[if_neg (by simpa using ag)]at k7;exact k7
  obtain⟨u,c,F,aq,ar,ay,au,av⟩:=Ad k2 hi;obtain⟨pre,xs,post,e1,e2,e3,e4⟩:=pI au hs U;have m:=yO ab ac;have q:(f x).cells.toList.length=xs.length:=by rw[(nS m).1,(nS e3).1,J]
  have ad:cs.toList=(u++pre)++xs++(post++F++rest):=by rw[k3,aq,e1];simp
  have ae:cs.size=(u++pre).length+xs.length+(post++F++rest).length:=by
   have:=congrArg hE ad;simp at this⊢;omega
  have ao:(u++pre).length=i*ai+L:=by simp[ar,e2]
  have C:=Km z W rfl (yu hk m) k1 (zB m) (by omega);have aV:(cs.toList.take (i*ai+L)++(f x).cells.toList++cs.toList.drop (i*ai+L+(f x).cells.toList.length))=(u++pre)++(f x).cells.toList++(post++F++rest):=by
   rw[ad,q,<-ao,hy (u++pre),List.take_left',List.drop_append,hy]
   ·simp
   ·rfl
  rw[aV]at C;obtain⟨am,c1,c2⟩:=av j _ (e4 _ _ _ r m q) (by rw[e1];simp[q]);have aH:cd β H β (H.set b (.arr k aA ai (n.set i j))):=pB d (.inr (.inl ⟨_,_,_,_,_,rfl,rfl,by simp⟩));have Q:∀y,aI H y->aI (H.set b (.arr k aA ai (n.set i j))) y:=ma d (fun _ h=>h);have an:¬df k (n.set i j):=fun G=>I ⟨G.1,by have:=G.2;rw[List.set_eq_nil_iff]at this;exact this⟩;have aj:aS (aI H) (n.set i j):=by
   rw[cL];intro v Y;rcases hF Y with Y|rfl
   ·exact cL.1 (l.refs b _ d) v Y
   ·exact vZ r (cL.1 (l.refs b _ d) _ (hT hi)) M
  have X:∀E,aa E->(w.setRow (β.al b) ((u++pre)++(f x).cells.toList++(post++F++rest)).toArray).heap[E]?=w.heap[E]?:=fun E S=>eb w _ E _ (fun O=>af.1 (O▸S));have V:=qI l d I (o':=.arr k aA ai (n.set i j)) an (fun _ h=>h) k1 (new:=((u++pre)++(f x).cells.toList++(post++F++rest)).toArray) af aH
   (.inr ⟨_,A,am,rest,em w _ _ _ A _ k1,bM.mono (fun _ x=>x) X aH _ _ _ aj c2,by rw[c1];simp,by
    rw[<-k4,ae];simp[q];omega,by simpa using k5,fun R=>by rw[k6 R];simp,k7,(fun R=>(ag R).elim),k8.2⟩)
   (aS.mono Q _ aj)
  exact⟨_,_,_,β,aa,C,.inr ⟨rfl,rfl⟩,V,by simp[aB,aD,bt,undef],by simp[aE]⟩
 ·exact h.elim
end
section
variable{P:da}{w:cN}{aa ah:Nat->Prop}{β:Bd}{H:Heap}
theorem B0(P:da)(T:c6):P.underlying T=(P.info? (P.underlyingId T)).map (fun i:dg=>i.desc):=by
 unfold gm gt;cases hi:P.info? T with
 |none=>simp[hi]
 |some i=>
  obtain⟨d,_,_,_,_,_,_,_,_,_⟩:=i;cases d<;>simp[hi]
theorem Ch{T u:c6}(h:kindOf P T=.agg u):u=P.underlyingId T/\(∃l,dR P u=some l)/\P.cellsOf T=P.cellsOf u:=by
 unfold kindOf at h
 split at h
 ·split at h
  ·rename_i hc;simp at h;subst h;simp at hc;exact⟨rfl,h9.1 hc.1,hc.2⟩
  ·simp at h
 ·split at h
  ·rename_i hc;simp at h;subst h;simp at hc;exact⟨rfl,h9.1 hc.1,hc.2⟩
  ·simp at h
 ·split at h<;>simp at h
 ·simp at h
theorem vG{T u:c6}{n:Nat}(h:fU P T=some (u,n)):∃fs l,P.underlying T=some (.struct fs)/\fs.size=n/\kindOf P T= .agg u/\dR P u=some l/\l.length=n/\
 ∀(i:Nat)(_hi:i<n),∃f,fs[i]?=some f/\f.offset=(l.take i).sum/\l[i]?=some (P.cellsOf f.type)/\0<P.cellsOf f.type/\(jv P u)[i]?=some f.type:=by
 unfold fU at h
 split at h
 case h_2=>simp at h
 rename_i u' fs hk c;simp at h;obtain⟨rfl,rfl⟩:=h;obtain⟨g,⟨l,a⟩,_⟩:=Ch hk;refine⟨fs,l,c,rfl,hk,a,?_⟩;have b:(P.info? u').map (fun i:dg=>i.desc)=some (.struct fs):=by rw[g,<-B0,c]
 unfold dR at a;rw[b]at a;dsimp only at a
 split at a
 case isFalse=>simp at a
 rename_i hc;simp at a;simp only[cy,hU,decide_eq_true_eq,beq_iff_eq]at hc;obtain⟨⟨d,j⟩,e⟩:=hc;subst a;refine⟨by simp,fun i hi=>?_⟩;refine⟨fs[i],by simp[hi],?_,by simp[hi],?_,?_⟩
 ·have:=e (fs[i],i) (by rw[List.mem_iff_getElem?];exact⟨i,by simp[hi]⟩);simpa using this
 ·have:=d (P.cellsOf fs[i].type) (by simp;exact⟨fs[i],by simp,rfl⟩);exact this
 ·unfold jv;rw[b];simp[hi]
theorem tQ{T u:c6}{n:Nat}(h:hJ P T=some (u,n)):∃e,P.underlying T=some (.array n e)/\kindOf P T=.agg u/\dR P u=some (hm n (P.cellsOf e))/\0<P.cellsOf e:=by
 unfold hJ at h
 split at h
 case h_2=>simp at h
 rename_i u' g e hk b;simp at h;obtain⟨rfl,rfl⟩:=h;obtain⟨d,⟨l,a⟩,_⟩:=Ch hk;have c:(P.info? u').map (fun i:dg=>i.desc)=some (.array g e):=by rw[d,<-B0,b]
 have f:=a;unfold dR at a;rw[c]at a;dsimp only at a
 split at a
 case isFalse=>simp at a
 rename_i hc;simp at a hc;exact⟨e,b,hk,by rw[f,a],hc.1⟩
theorem yv{p q:List (c6×Nat)}{a b:Nat}(c:gn P p=some a)(f:gn P q=some b):gn P (p++q)=some (a+b):=by
 induction p generalizing a with
 |nil=>simp[gn]at c;subst c;simpa using f
 |cons x p g=>
  obtain⟨u,i⟩:=x;simp only[gn]at c;cases d:dR P u with
  |none=>simp[d]at c
  |some l=>
   cases e:gn P p with
   |none=>simp[d,e]at c
   |some a'=>
    simp[d,e]at c;obtain⟨hi,rfl⟩:=c;simp only[List.cons_append,gn,d,g e,if_pos hi];congr 1;omega
theorem yz{u:c6}{i:Nat}{l:List Nat}(a:dR P u=some l)(hi:i<l.length):gn P [(u,i)]=some (l.take i).sum:=by
 simp[gn,a,hi]
variable{o:Oper}{ρ:cC->AV}{base:Nat}
theorem kl(al off n:Nat):(⟨al,off,none⟩:Addr).add n=⟨al,off+n,none⟩:=by unfold Addr.add;split<;>simp_all
theorem Uv{T:c6}{a:cC}{f:Nat}(v:o.op= .fieldAddr T a f){K:aW->Prop}(h:nN P T (ρ a) f K):
 ∃e,K e/\bw P o ρ base e/\e.ak=[]/\e.aK=[]:=by
 unfold nN at h
 split at h
 case h_2=>exact h.elim
 rename_i u n aH;obtain⟨hf,h⟩:=h;obtain⟨fs,l,L,x,hk,G,O,E⟩:=vG aH;obtain⟨fd,g1,g2,g3,g4,g5⟩:=E f hf;have z:=yz G (by omega:f<l.length);have B:∀(w:cN)(d:cC->cB)(al off:Nat),d a=.pointer (some ⟨al,off,none⟩)->(c9 d o).run P w=.ok (.value (.pointer (some ⟨al,off+(l.take f).sum,none⟩))) w:=by
  intro w d al off m;obtain⟨i,hi⟩:∃i,P.info? fd.type=some i:=by
   cases hi:P.info? fd.type with
   |none=>simp[gl,hi]at g4
   |some i=>exact⟨i,rfl⟩
  have J:(sizeOf fd.type).run P w=.ok (P.cellsOf fd.type) w:=by simp[sizeOf,typeInfo,hi,gl]
  simp only[c9,v];refine eJ ?_;have I:¬P.cellsOf fd.type=0:=by omega
  simp[Instr.fieldAt,cA L,g1,m,fl,fieldPlace,J,I,kl,g2]
 split at h
 ·rename_i b N m;refine⟨_,h,bw.same fun H w aa ah β d D r _=>?_,rfl,rfl⟩;obtain⟨c,j⟩:=r a (by simp[v,ge]);rw[m]at c j;simp only[aB,bO,bU,aE]at c j;obtain⟨_,al,off,M,A,y,p⟩:=c;refine⟨_,B w d _ _ A,?_,by simpa[aE]using j⟩;simp only[aB,bO,bU];exact⟨rfl,_,_,_,rfl,yv y z,fun q=>⟨(p q).1,by rw[(p q).2]⟩⟩
 ·rename_i b aA ai i N m;refine⟨_,h,bw.same fun H w aa ah β d D r _=>?_,rfl,rfl⟩;obtain⟨c,j⟩:=r a (by simp[v,ge]);rw[m]at c j;simp only[aB,bO,bU,aE]at c j;obtain⟨_,al,off,M,A,y,p⟩:=c;refine⟨_,B w d _ _ A,?_,by simpa[aE]using j⟩;simp only[aB,bO,bU];exact⟨rfl,_,_,_,rfl,yv y z,fun k C q x=>⟨(p k C q x).1,by rw[(p k C q x).2];omega⟩⟩
 ·rename_i t m;obtain⟨hs,h⟩:=h
  split at h
  case h_2=>exact h.elim
  rename_i g F;refine⟨_,h,?_,rfl,rfl⟩;refine bw.same fun H w aa ah β d D r _=>?_;obtain⟨c,_⟩:=r a (by simp[v,ge]);rw[m]at c;simp only[aB,aD]at c;obtain⟨al,off,Q,k1,k2,k3,k4⟩:=c;refine⟨_,B w d _ _ k4,?_,by simp[aE]⟩;obtain⟨pre,xs,post,e1,e2,e3⟩:=zh (path:=[(u,f)]) (s:=g) k1 (by simp[kV,hs,F]) z;simp only[aB,aD];refine⟨al,off+(l.take f).sum,xs,e3,k2,?_,rfl⟩;intro i hi;have:=k3 (pre.length+i) (by rw[e1];simp;omega);rw[<-e2,h7,this];congr 1;simp only[e1,hy];rw[hG (by omega)];simp only[h5];rw[hH hi]
 ·exact h.elim
end
section
variable{P:da}{w:cN}{aa ah:Nat->Prop}{β:Bd}{H:Heap}
variable{o:Oper}{ρ:cC->AV}{base:Nat}
theorem tC{al off:Nat}{a pre xs post:List cB}(h:gP w al off a)(e:a=pre++xs++post):gP w al (off+pre.length) xs:=by
 intro i hi;have:=h (pre.length+i) (by rw[e];simp;omega);rw[h7,this];congr 1;simp only[e,hy];rw[hG (by omega)];simp only[h5];rw[hH hi]
structure qM(P:da)(T:c6)(sz:Nat)(e:c6)(i:dg):Prop where
 gz:P.underlying T=some (.slice e)
 info:P.info? e=some i
 size:i.size=sz
 pos:0<sz
 bytes:i.bytes<32768
 aK1:0<i.bytes
 qB:eB P T=e
theorem ke{T:c6}{sz:Nat}(h:cR P T=some sz):∃e i,qM P T sz e i:=by
 unfold cR at h
 split at h
 case h_2=>simp at h
 rename_i e a
 split at h
 case h_2=>simp at h
 rename_i i hi
 split at h
 case isFalse=>simp at h
 rename_i hc;simp at h;subst h;exact⟨e,i,a,hi,rfl,hc.2.1,hc.1,hc.2.2,by simp[eB,a]⟩
theorem qM.run{T:c6}{sz:Nat}{e:c6}{i:dg}(h:qM P T sz e i)(w:cN):(sizeOf e).run P w=.ok sz w:=by
 simp[sizeOf,typeInfo,h.info,h.size]
theorem Uu{T:c6}{x S:cC}(B:o.op= .indexAddr T x S){H0:Heap}{K:aW->Prop}(h:nM P T H0 (ρ x) (ρ S) K):
 ∃e,K e/\bw P o ρ base e/\(∀p∈e.ak,H0[p.1]?=some p.2)/\e.aK=[]:=by
 unfold nM at h
 split at h
 case h_2=>exact h.elim
 rename_i ar n an;obtain⟨C,h⟩:=h;have E:x∈o.op.operands:=by simp[B,ge]
 have ao:S∈o.op.operands:=by simp[B,ge]
 have D:∀{H:Heap}{w:cN}{aa:Nat->Prop}{β:Bd}{z:cC->cB},(∀y∈o.op.operands,aB P w aa β H (ρ y) (z y)/\aE (aI H) (ρ y))->z S=.int ar n:=by
  intro H w aa β z f;have:=(f S ao).1;rw[an]at this;simpa[aB,aD]using this
 split at h
 ·
  rename_i full d hx;obtain⟨j,r,h⟩:=h;obtain⟨e,aj,A⟩:=ke r;refine⟨_,h,bw.same fun H w aa ah β z O f _=>?_,by simp,rfl⟩;obtain⟨a,_⟩:=f x E;rw[hx]at a;simp only[aB,aD]at a;obtain⟨al,off,cap,ai,V,k1,k2,k3,k4,k5,sp,ac,k6⟩:=a;obtain rfl:sp=none:=ac.resolve_right (by omega);have ab:Row P w aa ⟨id,id⟩ [] ai (d.map .p) V:=l9.2 k1;obtain⟨pre,c,post,ad,ae,af,U,_⟩:=Ad ab (i:=n.toNat) (by simpa using j);have M:aR P w aa d[n.toNat] c:=by
   have:(d.map AV.p)[n.toNat]'(by simpa using j)=.p d[n.toNat]:=by simp
   rw[this]at U;simpa only[br]using U
  have X:bI P (aL d[n.toNat])=ai:=by rw[<-(nO M).1,af]
  refine⟨.pointer (some ⟨al,off+n.toNat*ai,none⟩),?_,?_,by simp[aE]⟩
  ·simp only[c9,B];refine eJ ?_;have q:n<(d.length:Int):=by omega
   simp[fv,D f,asIntOf,cA A.gz,k6,C,q,A.run,X,kl]
  ·simp only[aB,aD];refine⟨al,off+n.toNat*ai,c,M,k2 (by intro F;rw[F]at j;simp at j),?_,rfl⟩;rw[<-ae];exact tC k3 ad
 ·
  rename_i d hx;obtain⟨j,r,h⟩:=h;obtain⟨e,aj,A⟩:=ke r;refine⟨_,h,bw.same fun H w aa ah β z O f _=>?_,by simp,rfl⟩;obtain⟨a,_⟩:=f x E;rw[hx]at a;simp only[aB,aD]at a;rcases a with⟨rfl,_⟩|⟨al,off,cap,ai,V,k1,k2,k3,k5,sp,ac,k6⟩
  ·simp at j
  obtain rfl:sp=none:=ac.resolve_right (by omega);have ab:Row P w aa ⟨id,id⟩ [] ai (d.map .p) V:=l9.2 k1;obtain⟨pre,c,post,ad,ae,af,U,_⟩:=Ad ab (i:=n.toNat) (by simpa using j);have M:aR P w aa d[n.toNat] c:=by
   have:(d.map AV.p)[n.toNat]'(by simpa using j)=.p d[n.toNat]:=by simp
   rw[this]at U;simpa only[br]using U
  have X:bI P (aL d[n.toNat])=ai:=by rw[<-(nO M).1,af]
  refine⟨.pointer (some ⟨al,off+n.toNat*ai,none⟩),?_,?_,by simp[aE]⟩
  ·simp only[c9,B];refine eJ ?_;have q:n<(d.length:Int):=by omega
   simp[fv,D f,asIntOf,cA A.gz,k6,C,q,A.run,X,kl]
  ·simp only[aB,aD];refine⟨al,off+n.toNat*ai,c,M,k2 (by intro F;rw[F]at j;simp at j),?_,rfl⟩;rw[<-ae];exact tC k3 ad
 ·
  rename_i b aA ai off len hx;obtain⟨r,j,h⟩:=h;obtain⟨e,aj,A⟩:=ke r
  split at h
  case h_2=>exact h.elim
  rename_i k aF ax d aq;obtain⟨rfl,rfl,ap,h⟩:=h;refine⟨_,h,bw.same fun H w aa ah β z O f ak=>?_,by simpa using aq,rfl⟩;obtain⟨a,l⟩:=f x E;rw[hx]at a l;simp only[aB,bO,bU,aE]at a l;have ag:H[b]?=some (.arr k aA ai d):=by simpa using ak
  obtain⟨g1,g2,W⟩:=a.2 k d ag;have W:=W ap;refine⟨.pointer (some ⟨β.al b,off*ai+n.toNat*ai,none⟩),?_,?_,by simpa[aE]using l⟩
  ·simp only[c9,B];refine eJ ?_;have q:n<(len:Int):=by omega
   simp[fv,D f,asIntOf,cA A.gz,W,C,q,A.run,kl]
  ·simp only[aB,bO,bU];refine⟨rfl,_,_,0,rfl,rfl,fun az aw v ay=>?_⟩;unfold eX at v;rw[ag]at v;cases v;exact⟨rfl,by rw[h8];simp⟩
 ·
  rename_i b av hx
  split at h
  case h_2=>exact h.elim
  rename_i u m G;obtain⟨j,h⟩:=h;obtain⟨e,R,hk,I,N⟩:=tQ G;refine⟨_,h,bw.same fun H w aa ah β z O f _=>?_,by simp,rfl⟩;obtain⟨a,l⟩:=f x E;rw[hx]at a l;simp only[aB,bO,bU,aE]at a l;obtain⟨_,al,off,au,Z,Y,v⟩:=a;have L:=yz I (i:=n.toNat) (by simpa using j);have Q:((hm m (P.cellsOf e)).take n.toNat).sum=n.toNat*P.cellsOf e:=by rw[hp,h2 (by omega),ho]
  have r:(sizeOf e).run P w=.ok (P.cellsOf e) w:=by
   cases hi:P.info? e with
   |none=>simp[gl,hi]at N
   |some i=>simp[sizeOf,typeInfo,hi,gl]
  refine⟨.pointer (some ⟨al,off+n.toNat*P.cellsOf e,none⟩),?_,?_,by simpa[aE]using l⟩
  ·simp only[c9,B];refine eJ ?_;have q:n<(m:Int):=by omega
   simp[fv,D f,asIntOf,cA R,Z,fl,C,q,r,kl]
  ·simp only[aB,bO,bU];exact⟨rfl,_,_,_,rfl,yv Y L,fun J=>⟨(v J).1,by rw[(v J).2,Q]⟩⟩
 ·rename_i b aA ai i av hx
  split at h
  case h_2=>exact h.elim
  rename_i u m G;obtain⟨j,h⟩:=h;obtain⟨e,R,hk,I,N⟩:=tQ G;refine⟨_,h,bw.same fun H w aa ah β z O f _=>?_,by simp,rfl⟩;obtain⟨a,l⟩:=f x E;rw[hx]at a l;simp only[aB,bO,bU,aE]at a l;obtain⟨_,al,off,au,Z,Y,v⟩:=a;have L:=yz I (i:=n.toNat) (by simpa using j);have Q:((hm m (P.cellsOf e)).take n.toNat).sum=n.toNat*P.cellsOf e:=by rw[hp,h2 (by omega),ho]
  have r:(sizeOf e).run P w=.ok (P.cellsOf e) w:=by
   cases hi:P.info? e with
   |none=>simp[gl,hi]at N
   |some i=>simp[sizeOf,typeInfo,hi,gl]
  refine⟨.pointer (some ⟨al,off+n.toNat*P.cellsOf e,none⟩),?_,?_,by simpa[aE]using l⟩
  ·simp only[c9,B];refine eJ ?_;have q:n<(m:Int):=by omega
   simp[fv,D f,asIntOf,cA R,Z,fl,C,q,r,kl]
  ·simp only[aB,bO,bU];exact⟨rfl,_,_,_,rfl,yv Y L,fun k d J F=>⟨(v k d J F).1,by rw[(v k d J F).2,Q];omega⟩⟩
 ·rename_i t hx
  split at h
  case h_2=>exact h.elim
  rename_i u m G;obtain⟨hs,j,h⟩:=h
  split at h
  case h_2=>exact h.elim
  rename_i g am;obtain⟨e,R,hk,I,N⟩:=tQ G;refine⟨_,h,bw.same fun H w aa ah β z O f _=>?_,by simp,rfl⟩;obtain⟨a,_⟩:=f x E;rw[hx]at a;simp only[aB,aD]at a;obtain⟨al,off,aC,k1,k2,k3,k4⟩:=a;have L:=yz I (i:=n.toNat) (by simpa using j);have Q:((hm m (P.cellsOf e)).take n.toNat).sum=n.toNat*P.cellsOf e:=by rw[hp,h2 (by omega),ho]
  have r:(sizeOf e).run P w=.ok (P.cellsOf e) w:=by
   cases hi:P.info? e with
   |none=>simp[gl,hi]at N
   |some i=>simp[sizeOf,typeInfo,hi,gl]
  obtain⟨pre,xs,post,e1,e2,e3⟩:=zh (path:=[(u,n.toNat)]) (s:=g) k1 (by simp[kV,hs,am]) L;refine⟨.pointer (some ⟨al,off+n.toNat*P.cellsOf e,none⟩),?_,?_,by simp[aE]⟩
  ·simp only[c9,B];refine eJ ?_;have q:n<(m:Int):=by omega
   simp[fv,D f,asIntOf,cA R,k4,fl,C,q,r,kl]
  ·simp only[aB,aD];refine⟨al,_,xs,e3,k2,?_,rfl⟩;rw[<-Q,<-e2];exact tC k3 e1
 ·exact h.elim
theorem aJY{bs:ByteArray}{s:List Nat}(h:s=bs.data.toList.map (·.toNat)){i:Nat}(hi:i<s.length):∃b:UInt8,bs[i]?=some b/\b.toNat=s[i]:=by
 subst h;have a:i<bs.size:=by simpa using hi
 refine⟨bs[i],by simp[a],?_⟩;simp only[List.getElem_map,cc];rfl
theorem Vr{T:c6}{x f:cC}{s:List Nat}{k:ee}{n:Int}(e:o.op= .index T x f)(hx:ρ x= .p (.str s))(hi:ρ f= .p (.int k n))(d:iB P T=true)(i:0<=n)(g:n.toNat<s.length):
 bw P o ρ base {v:=.p (.int .u8 (s[n.toNat]'g))}:=by
 refine bw.same fun H w aa ah β m l h _=>?_;have a:=(h x (by simp[e,ge])).1;have c:=(h f (by simp[e,ge])).1;rw[hx]at a;rw[hi]at c;simp only[aB,aD]at a c;obtain⟨bs,e1,e2⟩:=a;obtain⟨b,g1,g2⟩:=aJY e2 g;have j:P.underlying T=some .string:=by
  unfold iB at d
  split at d
  ·assumption
  ·simp at d
 refine⟨.int .u8 b.toNat,?_,by simp[aB,aD,g2],by simp[aE]⟩;simp only[c9,e,e1,c];refine eJ ?_;simp[Instr.index,asIntOf,cA j,i,g1]
theorem VM{S D:c6}{x:cC}{k k0:ee}{n:Int}(b:o.op= .convert S D x)(e:∃d,P.underlying S=some d)(c:P.underlying D=some (.int k))(hx:ρ x= .p (.int k0 n)):
 bw P o ρ base {v:=.p (.int k (k.wrap n))}:=by
 refine bw.same fun H w aa ah β i h g _=>?_;have a:=(g x (by simp[b,ge])).1;rw[hx]at a;simp only[aB,aD]at a;obtain⟨d,f⟩:=e;refine⟨.int k (k.wrap n),?_,by simp[aB,aD],by simp[aE]⟩;simp only[c9,b,a];refine eJ ?_;simp[convert,cA f,cA c,Conv.intToInt]
theorem VL{S D:c6}{x:cC}{s:List Nat}(b:o.op= .convert S D x)(e:∃d,P.underlying S=some d)(c:P.underlying D=some .string)(hx:ρ x= .p (.str s)):
 bw P o ρ base {v:=.p (.str s)}:=by
 refine bw.same fun H w aa ah β i h g _=>?_;have a:=(g x (by simp[b,ge])).1;rw[hx]at a;simp only[aB,aD]at a;obtain⟨bs,e1,e2⟩:=a;obtain⟨d,f⟩:=e;refine⟨.string bs,?_,by simp only[aB,aD];exact⟨bs,rfl,e2⟩,by simp[aE]⟩;simp only[c9,b,e1];refine eJ ?_;simp only[convert,gA,cA f,cA c,gy];cases d<;>simp
theorem Wy{b aA ai off len:Nat}{k:AK}{d:List AV}{v:cB}(h:aB P w aa β H (.sl b aA ai off len) v)(j:H[b]?=some (.arr k aA ai d)):∃a c,v=.slice a len c:=by
 simp only[aB,bO,bU]at h;obtain⟨f,g,i⟩:=h.2 k d j
 by_cases e:df k d
 ·rw[g e];have:len=0:=by rw[e.2]at f;simp at f;omega
  subst this;exact⟨_,_,rfl⟩
 ·exact⟨_,_,i e⟩
theorem Co:∀{b:List (PV×PV)}{a:List MapEntry},cH P w aa b a->a.length=b.length
 |[],a,h=>by simp only[cH]at h;subst h;rfl
 |(k,v)::r,a,h=>by
  simp only[cH]at h;obtain⟨e,rest,rfl,d,f,c⟩:=h;simp[Co c]
theorem aIU{c:Call}{x:cC}{n:Nat}{ak:List (Nat×Obj)}{H0:Heap}(G:o.op= .call c)(hc:c.callee= .builtin .len)(E:c.args.toList=[x])(i:lenOf H0 (ρ x)=some (n,ak))(d:gW P (c.argTypes.getD 0 0) (ρ x)=true)(O:0<c.argTypes.size):
 bw P o ρ base {v:=.p (.int .i64 n),ak}/\(∀p∈ak,H0[p.1]?=some p.2):=by
 have u:x∈o.op.operands:=by
  rw[G];simp only[ge,Call.operands,hc];simp;rw[<-b1,E];simp
 have J:c.args=#[x]:=by apply b2;simpa using E
 have q:c.argTypes[0]?=some (c.argTypes.getD 0 0):=by simp[cv,O]
 have t:∀{H:Heap}{w:cN}{aa:Nat->Prop}{β:Bd}{m:cC->cB},((eq c.argTypes o.type #[m x]).run P w= .ok (goInt n) w)->
  ∃D,(c9 m o).run P w=.ok (.value D) w/\aB P w aa β H (.p (.int .i64 n)) D/\aE (aI H) (.p (.int .i64 n)):=by
  intro H w aa β m L;refine⟨goInt n,?_,by simp[aB,aD,goInt],by simp[aE]⟩;simp only[c9,G,resolve,hc,J];simp[invoke,builtin,L]
 have N:∀T:c6,iB P T=true->P.underlying T=some .string:=by
  intro T h;unfold iB at h
  split at h
  ·assumption
  ·simp at h
 generalize R:c.argTypes.getD 0 0=T at*;unfold lenOf at i
 split at i
 ·rename_i s hx;simp at i;obtain⟨rfl,rfl⟩:=i;rw[hx]at d;simp only[gW]at d;refine⟨bw.same fun H w aa ah β m y j _=>t ?_,by simp⟩;have g:=(j x u).1;rw[hx]at g;simp only[aB,aD]at g;obtain⟨bs,e1,e2⟩:=g;have hs:s.length=bs.size:=by rw[e2];simp
  simp[eq,q,cA (N _ d),e1,hs]
 ·rename_i hx;simp at i;obtain⟨rfl,rfl⟩:=i;rw[hx]at d;refine⟨bw.same fun H w aa ah β m y j _=>t ?_,by simp⟩;have g:=(j x u).1;rw[hx]at g;simp only[aB,aD]at g;simp only[gW]at d
  split at d
  ·rename_i e l;simp[eq,q,cA l,g]
  ·simp at d
 ·rename_i hx;simp at i;obtain⟨rfl,rfl⟩:=i;rw[hx]at d;refine⟨bw.same fun H w aa ah β m y j _=>t ?_,by simp⟩;have g:=(j x u).1;rw[hx]at g;simp only[aB,aD]at g;simp only[gW]at d
  split at d
  ·rename_i k e l;simp[eq,q,cA l,g]
  ·simp at d
 ·rename_i f z hx;simp at i;obtain⟨rfl,rfl⟩:=i;rw[hx]at d;refine⟨bw.same fun H w aa ah β m y j _=>t ?_,by simp⟩;have g:=(j x u).1;rw[hx]at g;simp only[aB,aD]at g;obtain⟨al,off,cap,ai,I,k1,k2,k3,k4,k5,sp,M,k6⟩:=g;simp only[gW]at d
  split at d
  ·rename_i e l;simp[eq,q,cA l,k6]
  ·simp at d
 ·rename_i z hx;simp at i;obtain⟨rfl,rfl⟩:=i;rw[hx]at d;refine⟨bw.same fun H w aa ah β m y j _=>t ?_,by simp⟩;have g:=(j x u).1;rw[hx]at g;simp only[aB,aD]at g;simp only[gW]at d
  split at d
  ·rename_i e l;rcases g with⟨rfl,k6⟩|⟨al,off,cap,ai,I,k1,k2,k3,k5,sp,M,k6⟩
   ·simp[eq,q,cA l,k6]
   ·simp[eq,q,cA l,k6]
  ·simp at d
 ·rename_i z hx;simp at i;obtain⟨rfl,rfl⟩:=i;rw[hx]at d;refine⟨bw.same fun H w aa ah β m y j _=>t ?_,by simp⟩;have g:=(j x u).1;rw[hx]at g;simp only[aB,aD]at g;obtain⟨r,A,clock,k1,k2,k3,k4⟩:=g;simp only[gW]at d
  split at d
  ·rename_i k e l;have:=Co k3;have B:(getObj r).run P w=.ok (.map A clock) w:=by simp[getObj,g8,k2]
   simp at this;simp[eq,q,cA l,k4,B,this]
  ·simp at d
 ·rename_i b aA ai off len hx
  split at i
  case h_2=>simp at i
  rename_i k S Q z C
  split at i
  case isFalse=>simp at i
  rename_i K;obtain⟨rfl,rfl⟩:=K;simp at i;obtain⟨rfl,rfl⟩:=i;rw[hx]at d;refine⟨bw.same fun H w aa ah β m y j ak=>t ?_,by simpa using C⟩;have g:=(j x u).1;rw[hx]at g;obtain⟨a,cp,e1⟩:=Wy g (by simpa using ak);simp only[gW]at d
  split at d
  ·rename_i e l;simp[eq,q,cA l,e1]
  ·simp at d
 ·rename_i b hx
  split at i
  case h_2=>simp at i
  rename_i fz z C;simp at i;obtain⟨rfl,rfl⟩:=i;rw[hx]at d;refine⟨bw.same fun H w aa ah β m y j ak=>t ?_,by simpa using C⟩;have g:=(j x u).1;rw[hx]at g;simp only[aB,bO,bU]at g;have F:H[b]?=some (.map fz z):=by simpa using ak
  obtain⟨A,clock,k2,k3,_⟩:=y.cF b _ F;have e1:=g.2.1 ⟨_,F,trivial⟩;simp only[gW]at d
  split at d
  ·rename_i k e l;have:=Co k3;have B:(getObj (β.al b)).run P w=.ok (.map A clock) w:=by simp[getObj,g8,k2]
   simp at this;simp[eq,q,cA l,e1,B,this]
  ·simp at d
 ·simp at i
end
section
variable{P:da}{w:cN}{aa ah:Nat->Prop}{β:Bd}{H:Heap}
variable{o:Oper}{ρ:cC->AV}{base:Nat}
theorem L4:∀(a:List cB)(off j:Nat)(cells:Array cB),off+j+a.length<=cells.size->
 ((a.zipIdx j).foldl (fun cs(p:cB×Nat)=>cs.setIfInBounds (off+p.2) p.1) cells).toList=cells.toList.take (off+j)++a++cells.toList.drop (off+j+a.length)
 |[],off,j,cells,_=>by simp
 |x::a,off,j,cells,h=>by
  simp only[List.zipIdx_cons,List.foldl_cons];rw[L4 a off (j+1) _ (by simp at h⊢;omega)];simp only[Array.toList_setIfInBounds,hS];have d:off+j<cells.toList.length:=by simp at h⊢;omega
  rw[show off+(j+1)=off+j+1 by omega];have b:(cells.toList.set (off+j) x).take (off+j+1)=cells.toList.take (off+j)++[x]:=by
   rw[List.take_succ_eq_append_getElem (by simpa using d)];rw[List.take_set_of_le (h1 _)];simp
  have c:(cells.toList.set (off+j) x).drop (off+j+1+a.length)=cells.toList.drop (off+j+(a.length+1)):=by
   rw[List.drop_set_of_lt (by omega)];congr 1;omega
  rw[b,c];simp
theorem UL{a c post b:List cB}(h:b.length=c.length):((a++c++post).take a.length++b++(a++c++post).drop (a.length+b.length))=a++b++post:=by
 rw[h];simp
theorem Cm{l:List Nat}{place:Nat->Option (Nat×Nat)}(s:∀i n,l[i]?=some n->place i=some ((l.take i).sum,n)):
 ∀{f:List (Nat×AV)}{j:List (Nat×cB)}{fs:List AV}{e:List (List cB)}{cells:Array cB},j.map iL=f.map iL->(∀i:Nat,aB P w aa β H (((f[i]?).map iz).getD (.p .undef)) (((j[i]?).map iz).getD undef))->
  l7 P l f->bM P w aa β H l fs e->cells.toList=e.flatten->
  ∃g m,gb place cells j=some g/\bM P w aa β H l (iA fs f) m/\g.toList=m.flatten
 |[],[],fs,e,cells,_,_,_,h,hc=>⟨cells,e,rfl,h,hc⟩
 |[],_::_,_,_,_,b,_,_,_,_=>by simp at b
 |_::_,[],_,_,_,b,_,_,_,_=>by simp at b
 |(i,a)::f,(d,v)::j,fs,e,cells,b,t,o,h,hc=>by
  simp only[hZ,List.cons.injEq]at b;obtain⟨rfl,b⟩:=b;simp only[l7]at o;obtain⟨⟨n,q,hs,B⟩,o⟩:=o;have G:aB P w aa β H a v:=by simpa using t 0
  have y:=fun k=>t (k+1);simp only[hL]at y;have L:=yw h;have K:d<l.length:=(hl.1 q).1;have C:d<fs.length:=by omega
  obtain⟨pre,c,post,e1,e2,e3,e4,e5,A⟩:=tX h (hr C);have J:c.length=n:=by rw[q]at e4;simpa using e4.symm
  have u:=yO G B;have x:v.cells.toList.length=n:=by rw[(nS u).1,hs]
  obtain⟨m,k1,k2⟩:=A a _ u (by omega);have F:cells.size=pre.length+c.length+post.length:=by
   have:=congrArg hE (hc.trans e1);simp at this;omega
  have I:v.cells.size=n:=by simpa using x
  obtain⟨n8,r⟩:∃n8,(v.cells.zipIdx.foldl (fun cs(p:cB×Nat)=>cs.setIfInBounds ((l.take d).sum+p.2) p.1) cells)=n8:=⟨_,rfl⟩
  have D:n8.toList=m.flatten:=by
   rw[<-r,k1];have:=L4 v.cells.toList (l.take d).sum 0 cells (by rw[<-e2];simp at x⊢;omega);rw[<-ce];simp only[Array.toList_zipIdx];rw[this,hc,e1,h4,<-e2];exact UL (by omega)
  obtain⟨g,z,g1,g2,g3⟩:=Cm s b y o k2 D;refine⟨g,z,?_,by simpa only[iA]using g2,g3⟩;have E:¬(v.cells.size≠n\/(l.take d).sum+v.cells.size>cells.size):=by
   rw[I,F,<-e2];omega
  simp only[gb,s d n q];simp only[Bool.or_eq_true,decide_eq_true_eq,E,if_false];simp only[<-r]at g1;exact g1
end
section
variable{P:da}{w:cN}{aa ah:Nat->Prop}{β:Bd}{H:Heap}
variable{o:Oper}{ρ:cC->AV}{base:Nat}
theorem I0{α γ:Type}(f:α->Sem γ)(g:α->γ)(w:cN):∀l:List α,(∀a∈l,(f a).run P w=.ok (g a) w)->(l.mapM f).run P w=.ok (l.map g) w
 |[],_=>by simp
 |a::l,h=>by
  simp only[hW,gA,h a (by simp),gy,I0 f g w l (fun b c=>h b (by simp[c])),hZ];rfl
theorem Ui{α γ:Type}(f:α->Sem γ)(g:α->γ)(w:cN)(a:Array α)(h:∀x∈a.toList,(f x).run P w=.ok (g x) w):(a.mapM f).run P w=.ok (a.toList.map g).toArray w:=by
 rw[b4,g7,I0 f g w _ h];rfl
theorem KY{ρc:cC->cB}{parts:Array (Nat×cC)}(h:∀p∈parts.toList,aB P w aa β H (ρ p.2) (ρc p.2)):
 ((parts.map fun(i,x)=>(i,ρc x)).toList).map iL=(parts.toList.map fun(i,x)=>(i,ρ x)).map iL/\
 ∀i:Nat,aB P w aa β H ((((parts.toList.map fun(i,x)=>(i,ρ x))[i]?).map iz).getD (.p .undef)) ((((parts.map fun(i,x)=>(i,ρc x)).toList[i]?).map iz).getD undef):=by
 refine⟨by simp[Function.comp_def],fun i=>?_⟩;simp only[ck,hR];cases a:parts.toList[i]? with
 |none=>simp[aB,aD]
 |some p=>simpa using h p (hA a)
theorem CK{S:Nat×Nat->Prop}:∀{b:List (Nat×AV)}{fs:List AV},aS S fs->(∀p∈b,aE S p.2)->aS S (iA fs b)
 |[],fs,h,_=>h
 |(i,v)::r,fs,h,a=>by
  simp only[iA];refine CK ?_ (fun p c=>a p (by simp[c]));rw[cL]at h⊢;intro x hx;rcases hF hx with hx|rfl
  ·exact h x hx
  ·exact a (i,x) (by simp)
theorem KZ{c:Array (Nat×cC)}{p:Nat×cC}(a:p∈c.toList):p.2∈((c.toList.map (·.2)).toArray:Array cC):=by
 simp;exact⟨p.1,by simpa using a⟩
theorem X2{T u:c6}{z:PV}{l:List Nat}{c:Array (Nat×cC)}(y:o.op= .build T c)(hk:kindOf P T= .agg u)(V:cT P T=some z)(s:dR P u=some l)(hs:aL z= .agg u)
 (Q:l7 P l (c.toList.map fun(i,x)=>(i,ρ x))):bw P o ρ base {v:=ib u (iA ((cM z).map .p) (c.toList.map fun(i,x)=>(i,ρ x)))}:=by
 obtain⟨i,ae,L,z2,z3,z4⟩:=pf V;refine bw.same fun H w aa ah β m aj W _=>?_;have G:∀p∈c.toList,aB P w aa β H (ρ p.2) (m p.2)/\aE (aI H) (ρ p.2):=fun p g=>W p.2 (by rw[y];exact KZ g);obtain⟨Y,Z⟩:=KY (ρ:=ρ) (ρc:=m) (parts:=c) (fun p g=>(G p g).1);have I:=z3 w aa;obtain⟨fs,rfl⟩:∃fs,z=.st u fs:=by cases z<;>simp[aL]at hs;subst hs;exact⟨_,rfl⟩
 simp only[aR]at I;obtain⟨X,af,q1,ab,ac⟩:=I;rw[s]at q1;cases q1
 have E:∀A:Nat->Option (Nat×Nat),(∀i n,l[i]?=some n->A i=some ((l.take i).sum,n))->
  (∀cells,gb A ae.cells (c.map fun(i,x)=>(i,m x)).toList=some cells->(c9 m o).run P w=.ok (.value (.agg cells)) w)->
  ∃C,(c9 m o).run P w=.ok (.value C) w/\aB P w aa β H (ib u (iA ((cM (.st u fs)).map .p) (c.toList.map fun(i,x)=>(i,ρ x)))) C/\
   aE (aI H) (ib u (iA ((cM (.st u fs)).map .p) (c.toList.map fun(i,x)=>(i,ρ x)))):=by
  intro A R U;obtain⟨M,N,g1,g2,g3⟩:=Cm R Y Z Q (nR.2 ab) ac;refine⟨.agg M,U _ g1,?_,B3 (CK (iW _ _) ?_)⟩
  ·rw[YN];simp only[aB];exact⟨l,N,s,g2,by rw[<-g3]⟩
  ·intro p g;simp only[h0]at g;obtain⟨q,hq,rfl⟩:=g;exact(G q hq).2
 have k:=hk;unfold kindOf at k
 split at k
 ·rename_i a d;have aH:fU P T=some (u,a.size):=by unfold fU;rw[hk,d]
  obtain⟨ag,X,s1,s2,B,t,ad,J⟩:=vG aH;rw[d]at s1;cases s1;rw[s]at t;cases t;have S:(a.mapM fun f=>(do pure (f.offset,<-sizeOf f.type):Sem (Nat×Nat))).run P w=.ok (a.toList.map fun f:Field=>(f.offset,P.cellsOf f.type)).toArray w:=by
   refine Ui _ _ w _ (fun f hf=>?_);obtain⟨j,r,rfl⟩:=List.mem_iff_getElem.1 hf;obtain⟨D,g1,g2,g3,g4,g5⟩:=J j (by simpa using r);have:a[j]'(by simpa using r)=D:=by
    have F:a[j]?=some (a[j]'(by simpa using r)):=Array.getElem?_eq_getElem (by simpa using r);rw[g1]at F;exact(ix F).symm
   simp only[cc,this];simp[K g4]
  refine E (fun i=>(a.toList.map fun f:Field=>(f.offset,P.cellsOf f.type)).toArray[i]?) ?_ (fun cells hc=>?_)
  ·intro i n b;have hi:i<a.size:=by rw[<-ad];exact(hl.1 b).1
   obtain⟨D,g1,g2,g3,g4,g5⟩:=J i hi;rw[b]at g3;simp only[List.getElem?_toArray,hR,cb,g1];simp[g2,ix g3]
  ·simp only[c9,y];refine eJ ?_;simp only[gc,gA,tJ L z2,gy,cA d,S,hc,g0]
 ·rename_i n e d;have O:hJ P T=some (u,n):=by unfold hJ;rw[hk,d]
  obtain⟨e',s1,s2,B,t⟩:=tQ O;rw[d]at s1;cases s1;rw[s]at B;cases B;refine E (fun i=>some (i*P.cellsOf e,P.cellsOf e)) ?_ (fun cells hc=>?_)
  ·intro i ak b;rw[hv]at b
   split at b
   ·rename_i ai;simp at b;subst b;rw[hp,h2 (by omega),ho]
   ·simp at b
  ·simp only[c9,y];refine eJ ?_;simp only[gc,gA,tJ L z2,gy,cA d,K t,hc,g0]
 ·split at k<;>simp at k
 ·simp at k
where
 K {P:da} {w:cN} {T:c6} (h:0<P.cellsOf T):(sizeOf T).run P w=.ok (P.cellsOf T) w:=by
  cases hi:P.info? T with
  |none=>simp[gl,hi]at h
  |some i=>simp[sizeOf,typeInfo,hi,gl]
theorem yH(a:Array cB)(n:Nat)(_h:0<a.size):((b0 (n*a.size)).map (a[·% a.size]!)).toList=(hm n a.toList).flatten:=by
 simp only[ck,Array.toList_range]
 induction n with
 |zero=>simp
 |succ n c=>
  rw[Nat.succ_mul,List.range_add,List.map_append,c,List.replicate_succ',hP];congr 1;simp only[List.map_map,hw,List.flatten_nil,hV];refine List.ext_getElem (by simp) (fun i b d=>?_);simp at b;simp[Nat.mul_add_mod_self_right,Nat.mod_eq_of_lt b,b,getElem!_pos]
theorem vH{z:PV}{a:List cB}(h:aR P w aa z a):∀n:Nat,Row P w aa β H a.length (hm n (.p z)) (hm n a)
 |0=>im.2 rfl
 |n+1=>by
  rw[hO,hO,qP];exact⟨a,_,rfl,by simpa only[br]using h,rfl,vH h n⟩
theorem yP(d:bS P w aa β H ah){b:Nat}(c:H[b]?=some .hole){cells:Array cB}{T:c6}{k:AK}{ai cap:Nat}{a:List AV}{e:List (List cB)}{rest:List cB}(g:k≠ .frozen)(n:¬df k a)
 (o:Row P w aa β H ai a e)(i:aS (aI H) a)(hc:cells.toList=e.flatten++rest)(p:cells.size=cap*ai)(m:a.length<=cap)(l:k=.exact->cap=a.length)(q:k=.bytes->T=Gl.u8):
 bY P ah aa w β H aa {w with heap:=w.heap.push (.cells cells T)} (β.at b w.heap.size cap) (H.set b (.arr k 0 ai a))/\
 aB P {w with heap:=w.heap.push (.cells cells T)} aa (β.at b w.heap.size cap) (H.set b (.arr k 0 ai a)) (.sl b 0 ai 0 a.length) (.slice (some ⟨w.heap.size,0,none⟩) a.length cap):=by
 have aH:=yY (β:=β) c (.arr k 0 ai a) w.heap.size cap;have ak:∀y,aI H y->aI (H.set b (.arr k 0 ai a)) y:=ma c (fun _ h=>h.elim);have j:=(hl.1 c).1;refine⟨tL (cap:=cap) d c (ob:=.cells cells T)
  (.inr ⟨cells,T,e,rest,by simp[Bd.at],bM.mono (fun _ x=>x) (fun k hk=>vQ _ _ (d.bR k hk)) aH _ _ _ i o,hc,by simp[Bd.at,p],by simpa[Bd.at]using m,by simpa[Bd.at]using l,by
   unfold cG;rw[if_neg (by simpa using g)];simp only[Bd.at,if_true];exact⟨fun h=>h3 _ (d.bR _ h),fun h=>h3 _ (d.er _ h)⟩,(fun h=>(g h).elim),q⟩) (aS.mono ak _ i),?_⟩
 simp only[aB,bO,bU];refine⟨rfl,fun s r f=>?_⟩;unfold eX at f;rw[hn j]at f;cases f;exact⟨by omega,fun h=>(n h).elim,fun _=>by simp[Bd.at]⟩
theorem Ul{T:c6}{n sz:Nat}{z:PV}{a:Array (Nat×cC)}(C:o.op= .buildSlice T n a)(b:cR P T=some sz)(X:cT P (eB P T)=some z)(hs:bI P (aL z)=sz)(ae:n*sz<=1000000)
 (Q:l7 P (hm n sz) (a.toList.map fun(i,x)=>(i,ρ x))):
 bw P o ρ base {v:=.sl base 0 sz 0 n,aV:=[.arr .exact 0 sz (iA (hm n (.p z)) (a.toList.map fun(i,x)=>(i,ρ x)))]}:=by
 obtain⟨e,ag,b⟩:=ke b;obtain⟨i,f,I,z2,z3,z4⟩:=pf X;rw[b.qB]at I;intro H w aa ah β t R Z _ N;have B:H[base]?=some .hole:=by simpa using N 0 (by simp)
 have D:∀p∈a.toList,aB P w aa β H (ρ p.2) (t p.2)/\aE (aI H) (ρ p.2):=fun p d=>Z p.2 (by rw[C];exact KZ d);obtain⟨ab,ac⟩:=KY (ρ:=ρ) (ρc:=t) (parts:=a) (fun p d=>(D p d).1);have F:=z3 w aa;have s:f.cells.size=sz:=by have:=(nO F).1;simp at this;omega
 have r:=vH (β:=β) (H:=H) F n;have Y:f.cells.toList.length=sz:=by simpa using s
 rw[Y]at r;obtain⟨y,m⟩:∃c,c=(b0 (n*sz)).map (f.cells[·% f.cells.size]!):=⟨_,rfl⟩
 have O:y.toList=(hm n f.cells.toList).flatten:=by
  rw[m,<-s];exact yH _ _ (by rw[s];exact b.pos)
 have U:bM P w aa β H (hm n sz) (hm n (.p z)) (hm n f.cells.toList):=by
  unfold Row at r;simpa using r
 obtain⟨u,J,g1,g2,g3⟩:=Cm (place:=fun i=>some (i*sz,sz)) (by
  intro i af j;rw[hv]at j
  split at j
  ·rename_i ad;simp at j;subst j;rw[hp,h2 (by omega),ho]
  ·simp at j) ab ac Q U O
 have l:(iA (hm n (.p z)) (a.toList.map fun(i,x)=>(i,ρ x))).length=n:=by
  have:=(yw g2).2.1;simpa using this
 have E:Row P w aa β H sz (iA (hm n (.p z)) (a.toList.map fun(i,x)=>(i,ρ x))) J:=by unfold Row;rw[l];exact g2
 have S:aS (aI H) (iA (hm n (.p z)) (a.toList.map fun(i,x)=>(i,ρ x))):=by
  refine CK ?_ ?_
  ·rw[cL];intro v W;rw[hK W];simp[aE]
  ·intro p d;simp only[h0]at d;obtain⟨q,hq,rfl⟩:=d;exact(D q hq).2
 have M:u.size=n*sz:=by
  have A:=(fT E).2;rw[l,<-g3]at A;simpa using A
 have V:(c9 t o).run P w=.ok (.value (.slice (some ⟨w.heap.size,0,none⟩) n n)) {w with heap:=w.heap.push (.cells u e)}:=by
  simp only[c9,C];have K:¬(n*sz>2^24):=by omega
  have L:n*sz=0->(b0 (n*sz)).map ((#[]:Array cB)[·% (#[]:Array cB).size]!)=y:=by
   intro g;rw[m,g];simp
  refine vD ?_;simp only[Instr.buildSlice,gA,cA b.gz,gy,b.run,if_neg K]
  by_cases g:n*sz=0
  ·rw[if_pos g];simp only[gA,g0,gy,L g,g1,newRow,ea]
  ·rw[if_neg g];simp only[gA,g0,gy,tJ I z2,<-m,g1,newRow,ea]
 obtain⟨q1,G⟩:=yP (T:=e) (k:=.exact) R B (by simp) (by simp[df,AK.gr]) E S (rest:=[]) (by simpa using g3) (by rw[M]) (by omega:_<=n) (fun _=>l.symm) (fun h=>by cases h);rw[l]at G;exact⟨_,_,_,_,aa,V,.inl rfl,q1,G,by
  simp only[aE,lU];exact⟨_,hn (hl.1 B).1,h1 _⟩⟩
theorem Ut{T:c6}{lo q:cC}{sz:Nat}{z:PV}{l:Int}(t:o.op= .makeSlice T lo q)(a:cR P T=some sz)(X:cT P (eB P T)=some z)(L:ρ lo= .p (.int .i64 l))(hc:ρ q= .p (.int .i64 l))
 (hs:bI P (aL z)=sz)(b:0<=l)(M:l<=cZ):bw P o ρ base {v:=.sl base 0 sz 0 l.toNat,aV:=[.arr .exact 0 sz (hm l.toNat (.p z))]}:=by
 obtain⟨e,d,a⟩:=ke a;obtain⟨i,g,D,z2,z3,z4⟩:=pf X;rw[a.qB]at D;intro H w aa ah β Z O B _ K;have u:H[base]?=some .hole:=by simpa using K 0 (by simp)
 have r:=(B lo (by simp[t,ge])).1;have j:=(B q (by simp[t,ge])).1;rw[L]at r;rw[hc]at j;simp only[aB,aD]at r j;have A:=z3 w aa;have m:g.cells.size=sz:=by have:=(nO A).1;simp at this;omega
 obtain⟨n,rfl⟩:=Int.eq_ofNat_of_zero_le b;have y:=vH (β:=β) (H:=H) A n;have Y:g.cells.toList.length=sz:=by simpa using m
 rw[Y]at y;obtain⟨f,s⟩:∃c,c=(b0 (n*sz)).map (g.cells[·% g.cells.size]!):=⟨_,rfl⟩
 have x:f.toList=(hm n g.cells.toList).flatten:=by
  rw[s,<-m];exact yH _ _ (by rw[m];exact a.pos)
 have N:n<=1073741824:=by unfold cZ at M;omega
 have E:d.bytes*n<=32768*1073741824:=h6 (by have:=a.bytes;omega) N;have Q:(c9 Z o).run P w=.ok (.value (.slice (some ⟨w.heap.size,0,none⟩) n n)) {w with heap:=w.heap.push (.cells f e)}:=by
  simp only[c9,t,r,j];have W:IntKind.i64.wrap (n:Int)=n:=IntWalk.i64_in _ (by omega);have R:¬((n:Int)<0):=by omega
  have S:¬((d.bytes:Int)*n>2^48):=by
   intro J;have j:d.bytes*n<=35184372088832:=E;have ab:((d.bytes*n:Nat):Int)>281474976710656:=by rw[Int.natCast_mul];exact J
   omega
  have F:n*sz=0->(b0 (n*sz)).map ((#[]:Array cB)[·% (#[]:Array cB).size]!)=f:=by
   intro b;rw[s,b];simp
  have U:(typeInfo e).run P w=.ok d w:=by simp[typeInfo,a.info]
  have G:((decide ((n:Int)<0)||decide ((d.bytes:Int)*n>2^48))||decide ((n:Int)<0)||decide ((n:Int)>n))=false:=by
   simp only[R,S,decide_false,Bool.or_false,Bool.false_or];simp
  refine vD ?_;simp only[Instr.makeSlice,gA,cA a.gz,gy,asInt,asIntOf,g0,U,W];rw[if_neg (by simpa using G)];simp only[gA,run_askRoom,gy,a.run,Int.toNat_natCast]
  by_cases b:n*sz=0
  ·rw[if_pos b];simp only[gA,g0,gy,F b,newRow,ea]
  ·rw[if_neg b];simp only[gA,g0,gy,tJ D z2,<-s,newRow,ea]
 have I:f.size=n*sz:=by
  have:=congrArg hE x;simp at this;rw[this];simp[m]
 obtain⟨q1,C⟩:=yP (T:=e) (k:=.exact) O u (cells:=f) (cap:=n) (by simp) (by simp[df,AK.gr]) y (by
  rw[cL];intro v V;rw[hK V];simp[aE]) (rest:=[]) (by simpa using x) I (by simp) (fun _=>by simp) (fun h=>by cases h)
 simp only[List.length_replicate]at C;exact⟨_,_,_,_,aa,Q,.inl rfl,q1,C,by
  simp only[aE,lU];exact⟨_,hn (hl.1 u).1,h1 _⟩⟩
end
section
variable{P:da}{w:cN}{aa ah:Nat->Prop}{β:Bd}{H:Heap}
variable{o:Oper}{ρ:cC->AV}{base:Nat}
theorem ki{x:Option cC}{d:Nat}{R:Nat->Prop}(h:gG (x.map ρ) d R):
 ∃n,R n/\((x=none/\n=d)\/∃y k,x=some y/\ρ y=.p (.int k n)):=by
 cases x with
 |none=>exact⟨d,h,.inl ⟨rfl,rfl⟩⟩
 |some y=>
  simp only[ik,gG]at h
  split at h
  ·rename_i hx;cases hx
  ·rename_i k i hx;simp at hx;obtain⟨a,h⟩:=h;refine⟨i.toNat,h,.inr ⟨y,k,rfl,?_⟩⟩;rw[hx,Int.toNat_of_nonneg a]
  ·exact h.elim
theorem tz{lo hi:Option cC}{ρc:cC->cB}{b:Bool}{len cap d h l:Nat}(m:d=len)(n:(hi=none/\h=d)\/∃y k,hi=some y/\ρ y= .p (.int k h))(o:(lo=none/\l=0)\/∃y k,lo=some y/\ρ y= .p (.int k l))
 (f:h<=cap)(g:l<=h)(e:∀y,(hi=some y\/lo=some y)->aB P w aa β H (ρ y) (ρc y)):(e9 b len cap (lo.map ρc) (hi.map ρc) none).run P w=.ok (l,h,cap) w:=by
 subst m;rcases n with⟨rfl,rfl⟩|⟨y,k,rfl,i⟩<;>rcases o with⟨rfl,rfl⟩|⟨z,q,rfl,j⟩
 ·simp[e9]
 ·have c:=e z (.inr rfl);rw[j]at c;simp only[aB,aD]at c;simp[e9,c,fm,asIntOf,g]
 ·have a:=e y (.inl rfl);rw[i]at a;simp only[aB,aD]at a;simp[e9,a,fm,asIntOf,f]
 ·have a:=e y (.inl rfl);rw[i]at a;simp only[aB,aD]at a;have c:=e z (.inr rfl);rw[j]at c;simp only[aB,aD]at c;simp[e9,a,c,fm,asIntOf,f,g]
theorem tq{T e:c6}(b:P.underlying T=some (.slice e))(x:cB)(lo hi a:Option cB)(w:cN):(fN T x lo hi a).run P w=(fb T x lo hi a).run P w:=by
 simp only[fN,gA,cA b,gy]
theorem UH{T:c6}(b:P.underlying T=some .string)(x:cB)(lo hi a:Option cB)(w:cN):(fN T x lo hi a).run P w=(fb T x lo hi a).run P w:=by
 simp only[fN,gA,cA b,gy]
theorem pC{T:c6}{x y:cC}{lo hi b:Option cC}(a:o.op=.slice T x lo hi b)(h:hi=some y\/lo=some y):y∈o.op.operands:=by
 rw[a];simp only[ge];rcases h with rfl|rfl<;>simp
theorem yC{T:c6}(h:iB P T=true):P.underlying T=some .string:=by
 unfold iB at h
 split at h
 ·assumption
 ·simp at h
theorem vO{ai:Nat}:∀{l:List AV},fg P ai l↔∀v∈l,ad v≠.bad/\bI P (ad v)=ai
 |[]=>by simp[fg]
 |v::l=>by simp[fg,vO (l:=l)]
theorem tN{sz ai:Nat}{a:List AV}{d:List (List cB)}(b:Row P w aa β H ai a d)(hs:fg P sz a)(g:a≠[]):ai=sz:=by
 cases a with
 |nil=>exact(g rfl).elim
 |cons v a=>
  rw[qP]at b;obtain⟨c,cs,rfl,e,f,_⟩:=b;have:=(vO.1 hs v (by simp)).2;rw[<-f,(nS e).1,this]
theorem MJ{ai:Nat}{d:List PV}{e:List (List cB)}(h:bg P w aa (hm d.length ai) d e)(off len:Nat)(f:off+len<=d.length):
 ∃a b c,e=a++b++c/\bg P w aa (hm ((d.drop off).take len).length ai) ((d.drop off).take len) b/\a.flatten.length=off*ai:=by
 have g:Row P w aa ⟨id,id⟩ [] ai (d.map .p) e:=l9.2 h;obtain⟨a,b,c,e1,e2,e3,_⟩:=jM g off len (by simpa using f);rw[BZ,l9]at e2;exact⟨a,b,c,e1,e2,e3⟩
theorem XY{T:c6}{x:cC}{lo hi N:Option cC}(r:o.op= .slice T x lo hi N){H0:Heap}{K:aW->Prop}(h:nX P T H0 (ρ x) (lo.map ρ) (hi.map ρ) (N.map ρ) K):
 ∃e,K e/\bw P o ρ base e/\(∀p∈e.ak,H0[p.1]?=some p.2)/\e.aK=[]:=by
 unfold nX at h;obtain⟨ap,h⟩:=h;obtain rfl:N=none:=by cases N<;>simp_all
 have J:x∈o.op.operands:=by rw[r];simp[ge]
 split at h
 ·
  rename_i s hx;obtain⟨af,h⟩:=h;have ac:=yC af;obtain⟨l,h,C⟩:=ki h;obtain⟨f,h,D⟩:=ki h;obtain⟨A,B,h⟩:=h;refine⟨_,h,bw.same fun H w aa ah β n v m _=>?_,by simp,rfl⟩;have j:=(m x J).1;rw[hx]at j;simp only[aB,aD]at j;obtain⟨bs,e1,e2⟩:=j;have ag:s.length=bs.size:=by rw[e2];simp
  have u:=tz (P:=P) (w:=w) (aa:=aa) (β:=β) (H:=H) (b:=false) (cap:=bs.size) (ρ:=ρ) (ρc:=n) ag C D (by omega) B (fun y z=>(m y (pC r z)).1);refine⟨.string (bs.extract f l),?_,?_,by simp[aE]⟩
  ·simp only[c9,r,e1];refine eJ ?_;rw[UH ac];simp only[fb,gA,cA ac,gy,ih,Option.isSome_none];simp[u]
  ·simp only[aB,aD];refine⟨_,rfl,?_⟩;rw[e2,<-hX,<-List.map_drop,Go.Lib.extract_data,hC]
 ·
  rename_i hx;obtain⟨g,h⟩:=h;obtain⟨sz,g⟩:=h9.1 g;obtain⟨e,X,g⟩:=ke g;obtain⟨l,h,C⟩:=ki h;obtain⟨f,h,D⟩:=ki h;obtain⟨A,B,F⟩:=h;obtain rfl:l=0:=by omega
  obtain rfl:f=0:=by omega
  refine⟨_,F,bw.same fun H w aa ah β n v m _=>?_,by simp,rfl⟩;have j:=(m x J).1;rw[hx]at j;simp only[aB,aD]at j;have u:=tz (P:=P) (w:=w) (aa:=aa) (β:=β) (H:=H) (b:=true) (cap:=0) (ρ:=ρ) (ρc:=n) (len:=0) (d:=0) rfl C D (by omega) B (fun y z=>(m y (pC r z)).1);refine⟨.slice none 0 0,?_,by rw[hx];simp[aB,aD],by rw[hx];simp[aE]⟩;simp only[c9,r,j];refine eJ ?_;rw[tq g.gz];simp only[fb,gA,cA g.gz,gy,ih,u,g.run];simp
 ·
  rename_i full q hx;obtain⟨l,h,C⟩:=ki h;obtain⟨f,h,D⟩:=ki h;obtain⟨A,B,h⟩:=h
  split at h
  case h_2=>exact h.elim
  rename_i sz g;obtain⟨U,h⟩:=h;obtain⟨e,X,g⟩:=ke g;refine⟨_,h,bw.same fun H w aa ah β n v m _=>?_,by simp,rfl⟩;have j:=(m x J).1;rw[hx]at j;simp only[aB,aD]at j;obtain⟨al,off,cap,ai,Y,v1,v2,v3,v4,v5,sp,V,v6⟩:=j;have W:cap≠f->sp=none:=fun h=>V.resolve_right (by omega);have u:=tz (P:=P) (w:=w) (aa:=aa) (β:=β) (H:=H) (b:=true) (cap:=cap) (ρ:=ρ) (ρc:=n) rfl C D (by omega) B (fun y z=>(m y (pC r z)).1);refine⟨.slice (some (if cap=f then⟨al,off,sp⟩else⟨al,off+f*sz,none⟩)) (l-f) (cap-f),?_,?_,by simp[aE]⟩
  ·simp only[c9,r,v6];refine eJ ?_;rw[tq g.gz];simp only[fb,gA,cA g.gz,gy,ih,u,g.run]
   by_cases hc:cap=f
   ·simp[hc]
   ·obtain rfl:=W hc;simp[hc,kl]
  ·have I:((q.take l).drop f).length=l-f:=by simp;omega
   simp only[aB,aD,I]
   by_cases E:q=[]
   ·subst E;simp at A;subst A;obtain rfl:f=0:=by omega
    by_cases hc:cap=0
    ·exact⟨al,off,cap,sz,[],by simp[bg],by simp,by intro i hi;simp at hi,fun _=>by simpa using hc,by simp,sp,.inr hc,by simp[hc]⟩
    ·exact⟨al,off,cap,sz,[],by simp[bg],by simp,by intro i hi;simp at hi,fun hf=>by simp at hf;simpa using v4 hf,by simp,none,.inl rfl,by simp[hc]⟩
   ·have Q:ai=sz:=tN (w:=w) (aa:=aa) (β:=β) (H:=H) (l9.2 v1) U (by simpa using E);subst Q;obtain⟨a,b,c,e1,e2,e3⟩:=MJ v1 f (l-f) (by omega);rw[<-hC]at e2;have ao:(q.drop f).take (l-f)=(q.take l).drop f:=by rw[hC]
    rw[I]at e2
    by_cases hc:cap=f
    ·obtain rfl:l=f:=by omega
     have O:b=[]:=by
      have:=(vE e2).2.2;simpa using this
     subst O;refine⟨al,off,cap-l,ai,[],by simpa using e2,fun _=>v2 E,by intro i hi;simp at hi,?_,by omega,sp,.inr (by omega),by simp[hc]⟩;intro _;omega
    ·refine⟨al,off+f*ai,cap-f,ai,b,e2,fun _=>v2 E,?_,?_,by omega,none,.inl rfl,by simp[hc]⟩
     ·have:=tC v3 (pre:=a.flatten) (xs:=b.flatten) (post:=c.flatten) (by rw[e1];simp);rw[e3]at this;exact this
     ·intro hf;simp at hf;have:=v4 hf.1;omega
 ·
  rename_i q hx;obtain⟨l,h,C⟩:=ki h;obtain⟨f,h,D⟩:=ki h;obtain⟨A,B,h⟩:=h
  split at h
  case h_2=>exact h.elim
  rename_i sz g;obtain⟨U,h⟩:=h;obtain⟨e,X,g⟩:=ke g;refine⟨_,h,bw.same fun H w aa ah β n v m _=>?_,by simp,rfl⟩;have j:=(m x J).1;rw[hx]at j;simp only[aB,aD]at j;rcases j with⟨rfl,j⟩|⟨al,off,cap,ai,Y,v1,v2,v3,v5,sp,V,v6⟩
  ·simp at A;subst A;obtain rfl:f=0:=by omega
   have u:=tz (P:=P) (w:=w) (aa:=aa) (β:=β) (H:=H) (b:=true) (cap:=0) (ρ:=ρ) (ρc:=n) (len:=0) (d:=0) rfl C D (by omega) B (fun y z=>(m y (pC r z)).1);refine⟨.slice none 0 0,?_,by simp[aB,aD],by simp[aE]⟩;simp only[c9,r,j];refine eJ ?_;rw[tq g.gz];simp only[fb,gA,cA g.gz,gy,ih,u,g.run];simp
  have W:cap≠f->sp=none:=fun h=>V.resolve_right (by omega);have u:=tz (P:=P) (w:=w) (aa:=aa) (β:=β) (H:=H) (b:=true) (cap:=cap) (ρ:=ρ) (ρc:=n) rfl C D (by omega) B (fun y z=>(m y (pC r z)).1);refine⟨.slice (some (if cap=f then⟨al,off,sp⟩else⟨al,off+f*sz,none⟩)) (l-f) (cap-f),?_,?_,by simp[aE]⟩
  ·simp only[c9,r,v6];refine eJ ?_;rw[tq g.gz];simp only[fb,gA,cA g.gz,gy,ih,u,g.run]
   by_cases hc:cap=f
   ·simp[hc]
   ·obtain rfl:=W hc;simp[hc,kl]
  ·have I:((q.take l).drop f).length=l-f:=by simp;omega
   simp only[aB,aD,I];right
   by_cases E:q=[]
   ·subst E;simp at A;subst A;obtain rfl:f=0:=by omega
    by_cases hc:cap=0
    ·exact⟨al,off,cap,sz,[],by simp[bg],by simp,by intro i hi;simp at hi,by simp,sp,.inr hc,by simp[hc]⟩
    ·exact⟨al,off,cap,sz,[],by simp[bg],by simp,by intro i hi;simp at hi,by simp,none,.inl rfl,by simp[hc]⟩
   ·have Q:ai=sz:=tN (w:=w) (aa:=aa) (β:=β) (H:=H) (l9.2 v1) U (by simpa using E);subst Q;obtain⟨a,b,c,e1,e2,e3⟩:=MJ v1 f (l-f) (by omega);rw[<-hC]at e2;rw[I]at e2
    by_cases hc:cap=f
    ·obtain rfl:l=f:=by omega
     have O:b=[]:=by
      have:=(vE e2).2.2;simpa using this
     subst O;exact⟨al,off,cap-l,ai,[],by simpa using e2,fun _=>v2 E,by intro i hi;simp at hi,by omega,sp,.inr (by omega),by simp[hc]⟩
    ·refine⟨al,off+f*ai,cap-f,ai,b,e2,fun _=>v2 E,?_,by omega,none,.inl rfl,by simp[hc]⟩;have:=tC v3 (pre:=a.flatten) (xs:=b.flatten) (post:=c.flatten) (by rw[e1];simp);rw[e3]at this;exact this
 ·
  rename_i b aA ai off len hx
  split at h
  case h_2=>exact h.elim
  rename_i k aq an q S;obtain⟨rfl,rfl,g,M,hlen,h⟩:=h;obtain⟨l,h,C⟩:=ki h;obtain⟨f,h,D⟩:=ki h;obtain⟨A,B,F⟩:=h;obtain⟨e,X,g⟩:=ke g
  have key:∀(H:Heap)(w:cN)(aa ah:Nat->Prop)(β:Bd)(n:cC->cB),bS P w aa β H ah->(∀x∈o.op.operands,aB P w aa β H (ρ x) (n x)/\aE (aI H) (ρ x))->
   H[b]?=some (.arr k aA ai q)->q.length<=β.cap b/\(c9 n o).run P w=.ok (.value (.slice (some (if β.cap b-off=f then⟨β.al b,off*ai,none⟩else⟨β.al b,off*ai+f*ai,none⟩)) (l-f) (β.cap b-off-f))) w:=by
   intro H w aa ah β n v m t;have j:=(m x J).1;rw[hx]at j;simp only[aB,bO,bU]at j;obtain⟨_,_,j⟩:=j.2 k q t;have j:=j M;rcases v.cF b _ t with hold|⟨cs,am,Y,rest,k1,k2,k3,k4,k5,k6⟩
   ·exact(M hold).elim
   have u:=tz (P:=P) (w:=w) (aa:=aa) (β:=β) (H:=H) (b:=true) (cap:=β.cap b-off) (ρ:=ρ) (ρc:=n) rfl C D (by omega) B (fun y z=>(m y (pC r z)).1);refine⟨k5,?_⟩;simp only[c9,r,j];refine eJ ?_;rw[tq g.gz];simp only[fb,gA,cA g.gz,gy,ih,u,g.run]
   by_cases hc:β.cap b-off=f
   ·simp[hc]
   ·simp[hc,kl]
  split at F
  ·rename_i Z;subst Z;refine⟨_,F,bw.same fun H w aa ah β n v m ak=>?_,by simpa using S,rfl⟩;have t:H[b]?=some (.arr k aA ai q):=by simpa using ak
   obtain⟨ad,L⟩:=key H w aa ah β n v m t;refine⟨_,L,?_,?_⟩
   ·simp only[aB,bO,bU];refine⟨by simp[hd],fun aj ae G=>?_⟩;unfold eX at G;rw[t]at G;cases G;exact⟨by omega,fun R=>(M R).elim,fun _=>by simp⟩
   ·simp only[aE];exact⟨_,t,h1 _⟩
  ·rename_i Z
   split at F
   ·rename_i ab;subst ab;refine⟨_,F,bw.same fun H w aa ah β n v m ak=>?_,by simpa using S,rfl⟩;have t:H[b]?=some (.arr k aA ai q):=by simpa using ak
    obtain⟨ad,L⟩:=key H w aa ah β n v m t;refine⟨_,L,?_,by simp[aE]⟩;simp only[aB,aD]
    by_cases hc:β.cap b-off=f
    ·exact⟨β.al b,off*ai,β.cap b-off-f,ai,[],by simp[bg],by simp,by intro i hi;simp at hi,by simp,by simp,by simp[hc]⟩
    ·exact⟨β.al b,off*ai+f*ai,β.cap b-off-f,ai,[],by simp[bg],by simp,by intro i hi;simp at hi,by simp,by simp,by simp[hc]⟩
   ·rename_i ab;refine⟨_,F,bw.same fun H w aa ah β n v m ak=>?_,by simpa using S,rfl⟩;have t:H[b]?=some (.arr k aA ai q):=by simpa using ak
    obtain⟨ad,L⟩:=key H w aa ah β n v m t;refine⟨_,L,?_,?_⟩
    ·simp only[aB,bO,bU];refine⟨by simp[hd],fun aj ae G=>?_⟩;unfold eX at G;rw[t]at G;cases G;refine⟨by omega,fun R=>(M R).elim,fun _=>?_⟩;have hc:¬(β.cap b-off=f):=by omega
     rw[if_neg hc,h8,Nat.sub_sub]
    ·simp only[aE];exact⟨_,t,h1 _⟩
 ·exact h.elim
theorem WQ{T:c6}{x:cC}{lo hi:Option cC}{d:cC}(g:o.op= .slice T x lo hi (some d)){H0:Heap}{K:aW->Prop}(h:qS P T H0 (ρ x) (lo.map ρ) (hi.map ρ) (ρ d) K):
 ∃e,K e/\bw P o ρ base e/\(∀p∈e.ak,H0[p.1]?=some p.2)/\e.aK=[]:=by
 unfold qS at h;have S:x∈o.op.operands:=by rw[g];simp[ge]
 split at h
 case h_2=>exact h.elim
 rename_i b aA ai off len hx
 split at h
 case h_2=>exact h.elim
 rename_i k ag ac es V;obtain⟨rfl,rfl,c,E,hlen,X,h⟩:=h;obtain⟨i,h,Q⟩:=ki h;obtain⟨I,h,R⟩:=ki h;have J:gG ((some d).map ρ) 0 (fun m=>off+m<=es.length/\i<=m/\I<=i/\K {v:=.p .undef,ak:=[(b,.arr k aA ai es)]}):=h;obtain⟨B,h,U⟩:=ki J;obtain⟨ad,C,L,M⟩:=h;obtain⟨sz,c⟩:=h9.1 c;obtain⟨e,af,c⟩:=ke c;refine⟨_,M,bw.same fun H w aa ah β f W n ak=>?_,by simpa using V,rfl⟩;have F:H[b]?=some (.arr k aA ai es):=by simpa using ak
 have a:=(n x S).1;rw[hx]at a;simp only[aB,bO,bU]at a;obtain⟨_,_,a⟩:=a.2 k es F;have a:=a E;rcases W.cF b _ F with hold|⟨cs,Z,ab,rest,k1,k2,k3,k4,k5,k6⟩
 ·exact(E hold).elim
 have s:∃q,ρ d=.p (.int q B):=by
  rcases U with⟨h,_⟩|⟨y,q,A,a⟩
  ·cases h
  ·cases A;exact⟨q,a⟩
 obtain⟨q,s⟩:=s;have j:=(n d (by rw[g];simp[ge])).1;rw[s]at j;simp only[aB,aD]at j;have O:∃y G,hi=some y/\ρ y=.p (.int G i):=by
  rcases Q with⟨rfl,_⟩|h
  ·simp at X
  ·exact h
 obtain⟨y,G,rfl,A⟩:=O;have l:=(n y (pC g (.inl rfl))).1;rw[A]at l;simp only[aB,aD]at l;have N:(e9 true len (β.cap b-off) (lo.map f) (some (f y)) (some (f d))).run P w=.ok (I,i,B) w:=by
  have D:(B:Int)<=((β.cap b-off:Nat):Int):=by omega
  rcases R with⟨rfl,rfl⟩|⟨z,ae,rfl,Y⟩
  ·simp[e9,j,l,fm,asIntOf,D,C]
  ·have u:=(n z (pC g (.inr rfl))).1;rw[Y]at u;simp only[aB,aD]at u;simp[e9,j,l,u,fm,asIntOf,D,C,L]
 have t:∃r,(fN T (f x) (lo.map f) (some (f y)) (some (f d))).run P w=.ok r w:=by
  rw[tq c.gz,a];simp only[fb,gA,cA c.gz,gy,N,c.run];exact⟨_,rfl⟩
 obtain⟨r,t⟩:=t;refine⟨r,?_,by simp only[aB,aD],by simp[aE]⟩;simp only[c9,g,ik];exact eJ t
end
section
variable{P:da}{w:cN}{aa ah:Nat->Prop}{β:Bd}{H:Heap}
variable{o:Oper}{ρ:cC->AV}{base:Nat}
theorem qh{H0 H:Heap}{a:AV}{c:List AV}(h:gO H0 a=some c)(ak:∀p∈dE H0 a,H[p.1]?=some p.2):gO H a=some c:=by
 cases a with
 |sl b aA ai off len=>
  simp only[gO]at h⊢;simp only[dE]at ak
  split at h
  case h_2=>simp at h
  rename_i k g f e d;rw[d]at ak;have:=ak _ (hQ.2 rfl);simp only at this;rw[this];exact h
 |p v=>cases v<;>exact h
 |_=>simp[gO]at h
theorem nG{H0:Heap}{a:AV}:∀p∈dE H0 a,H0[p.1]?=some p.2:=by
 intro p b;unfold dE at b
 split at b
 all_goals first
  |(split at b
    ·rename_i o c;simp at b;subst b;exact c
    ·simp at b)
  |simp at b
theorem vB{sz m:Nat}{al off n c:Nat}{w:cN}{xs:List cB}(e:xs.length=m*sz)(hc:gP w al off xs):(en sz m (.slice (some ⟨al,off,none⟩) n c)).run P w=.ok xs.toArray w:=by
 refine ec w sz m _ n c xs e ?_;intro j v a;rw[kl];obtain⟨b,d⟩:=hl.1 a;rw[hc j b,d]
theorem BS{sz n c:Nat}{a:Addr}{w:cN}:(en sz 0 (.slice (some a) n c)).run P w=.ok #[] w:=
 ec w sz 0 a n c [] (by simp) (fun j v b=>by simp at b)
theorem wD{sz:Nat}{a:AV}{u:List AV}{v:cB}(g:gO H a=some u)(I:bS P w aa β H ah)(i:aB P w aa β H a v)(S:aE (aI H) a)(hs:fg P sz u):
 ∃d,Row P w aa β H sz u d/\aS (aI H) u/\ew v=pure u.length/\
  ∀w':cN,w'.heap=w.heap->∀m,m<=u.length->(en sz m v).run P w'=.ok (d.take m).flatten.toArray w':=by
 have G:∀{f:List AV}{d:List (List cB)}(m:Nat),Row P w aa β H sz f d->m<=f.length->(d.take m).flatten.length=m*sz:=by
  intro f d m h j;obtain⟨x,y,z,e1,e2,e3,e4,e5⟩:=jM h 0 m (by omega);have hx:x=[]:=by have:=(fT e4).1;simpa using this
  have O:y.length=m:=by have:=(fT e2).1;simp at this;omega
  subst hx;have K:d.take m=y:=by rw[e1];simp[O]
  rw[K];have:=(fT e2).2;rw[this];simp[j]
 have cells:∀{al off:Nat}{d:List (List cB)}(w':cN),w'.heap=w.heap->gP w al off d.flatten->∀m,gP w' al off (d.take m).flatten:=by
  intro al off d w' q hc m;have J:gP w' al off d.flatten:=hc.same (by rw[q]);have:=tC J (pre:=[]) (xs:=(d.take m).flatten) (post:=(d.drop m).flatten) (by
   rw[List.nil_append,<-hP,List.take_append_drop])
  simpa using this
 cases a with
 |p t=>
  cases t with
  |aP=>
   simp[gO]at g;subst g;simp only[aB,aD]at i;subst i;exact⟨[],im.2 rfl,by simp[aS],rfl,fun w' _ m j=>by simp[en]⟩
  |bP full f=>
   simp[gO]at g;subst g;simp only[aB,aD]at i;obtain⟨al,off,cap,ai,d,v1,v2,v3,v4,v5,sp,E,rfl⟩:=i;rcases E with rfl|rfl
   case inr=>
    obtain rfl:f=[]:=ht.1 (by omega);exact⟨[],im.2 rfl,by simp[aS],rfl,fun w' _ m j=>by
     obtain rfl:m=0:=by simpa using j
     exact BS⟩
   have h:Row P w aa β H ai (f.map .p) d:=l9.2 v1;have o:Row P w aa β H sz (f.map .p) d:=by
    by_cases n:f.map AV.p=[]
    ·rw[n]at h⊢;rw[im]at h⊢;exact h
    ·rw[<-tN h hs n];exact h
   refine⟨d,o,iW _ _,by simp[ew],fun w' q m j=>?_⟩;exact vB (G m o j) (cells w' q v3 m)
  |seq f=>
   simp[gO]at g;subst g;simp only[aB,aD]at i;rcases i with⟨rfl,rfl⟩|⟨al,off,cap,ai,d,v1,v2,v3,v5,sp,E,rfl⟩
   ·exact⟨[],im.2 rfl,by simp[aS],rfl,fun w' _ m j=>by simp[en]⟩
   rcases E with rfl|rfl
   case inr=>
    obtain rfl:f=[]:=ht.1 (by omega);exact⟨[],im.2 rfl,by simp[aS],rfl,fun w' _ m j=>by
     obtain rfl:m=0:=by simpa using j
     exact BS⟩
   have h:Row P w aa β H ai (f.map .p) d:=l9.2 v1;have o:Row P w aa β H sz (f.map .p) d:=by
    by_cases n:f.map AV.p=[]
    ·rw[n]at h⊢;rw[im]at h⊢;exact h
    ·rw[<-tN h hs n];exact h
   refine⟨d,o,iW _ _,by simp[ew],fun w' q m j=>?_⟩;exact vB (G m o j) (cells w' q v3 m)
  |str s=>
   simp[gO]at g;subst g;simp only[aB,aD]at i;obtain⟨bs,rfl,rfl⟩:=i;have N:sz=1\/bs.data.toList=[]:=by
    cases B:bs.data.toList with
    |nil=>exact .inr rfl
    |cons a r=>
     rw[B]at hs;simp[fg,ad,aL,bI]at hs;exact .inl hs.1.symm
   have h:Row P w aa β H sz ((bs.data.toList.map (·.toNat)).map fun c=>.p (.int .u8 (c:Nat))) (bs.data.toList.map fun c=>[he .u8 c.toNat]):=by
    rcases N with rfl|B
    ·generalize bs.data.toList=l
     induction l with
     |nil=>exact im.2 rfl
     |cons a r F=>exact qP.2 ⟨_,_,rfl,by simp[br,aR],rfl,F⟩
    ·rw[B];exact im.2 rfl
   refine⟨_,h,by rw[cL];intro v i;simp at i;obtain⟨a,_,rfl⟩:=i;simp[aE],by simp[ew],fun w' _ m _=>?_⟩;have e:((bs.data.toList.map fun c=>[he .u8 c.toNat]).take m).flatten=(bs.data.toList.take m).map fun c=>he .u8 c.toNat:=by
    rw[<-hX];generalize bs.data.toList.take m=l
    induction l with
    |nil=>rfl
    |cons a r F=>simp[F]
   rw[e];simp only[en,g0];congr 1;apply b2;simp[ByteArray.data_extract]
  |_=>simp[gO]at g
 |sl b aA ai off len=>
  simp only[gO]at g
  split at g
  case h_2=>simp at g
  rename_i k T R f D
  split at g
  case isFalse=>simp at g
  rename_i hc;obtain⟨rfl,rfl,C⟩:=hc;simp at g;subst g;simp only[aB,bO,bU]at i;obtain⟨_,v2,v3⟩:=i.2 k f D;have M:((f.drop off).take len).length=len:=by simp;omega
  by_cases A:df k f
  ·rw[v2 A];have L:=A.2;subst L;simp at C;obtain⟨rfl,rfl⟩:=C;exact⟨[],im.2 (by simp),by simp[aS],rfl,fun w' _ m j=>by simp[en]⟩
  ·rw[v3 A];rcases I.cF b _ D with hold|⟨cs,Q,d,rest,k1,k2,k3,k4,k5,k6⟩
   ·exact(A hold).elim
   obtain⟨x,y,z,e1,e2,e3,e4,e5⟩:=jM k2 off len C;have o:Row P w aa β H sz ((f.drop off).take len) y:=by
    by_cases n:(f.drop off).take len=[]
    ·rw[n]at e2⊢;rw[im]at e2⊢;exact e2
    ·rw[<-tN e2 hs n];exact e2
   refine⟨y,o,?_,by rw[M];rfl,fun w' q m j=>?_⟩
   ·rw[cL];intro v i;exact cL.1 (I.refs b _ D) v (hN (hM i))
   ·refine vB (G m o j) (cells w' q ?_ m);rw[<-e3];exact lY k1 (post:=z.flatten++rest) (by rw[k3,e1];simp)
 |_=>simp[gO]at g
theorem Wx{T X e:c6}{i:dg}{f:cB}{sz:Nat}(a:qM P T sz e i)(b:iF P X=true)(y:i.zero=some f)(A:c6){p:Option Addr}{sLen sCap n:Nat}{j h:Array cB}(x:cB)
 (hx:ew x=pure n)(s:(en sz sLen (.slice p sLen sCap)).run P w.drew=.ok j w.drew)(aV:(en sz n x).run P w.drew=.ok h w.drew)(q:sCap<sLen+n)(g:sLen+n<=cZ):
 ∃cap,sLen+n<=cap/\(eo #[T,X] A #[.slice p sLen sCap,x]).run P w=
  .ok (.slice (some ⟨w.heap.size,0,none⟩) (sLen+n) cap) {w.drew with heap:=w.heap.push (.cells (j++h++e6 f.cells (cap-(sLen+n))) e)}:=by
 refine⟨grownCap w (sLen+n) sCap e,by simp[grownCap,Question.cut],?_⟩;have o:∃d,P.underlying X=some d/\∀k,d≠.int k:=by
  unfold iF at b
  split at b
  ·simp at b
  ·rename_i d c v;exact⟨_,v,c⟩
  ·simp at b
 obtain⟨d,c,B⟩:=o;have r:¬(sLen+n<=sCap):=by omega
 have m:¬(9223372036854775807<((sLen:Int)+(n:Int))):=by unfold cZ at g;omega
 have C:e7 (sLen+n) sCap*i.bytes<=281474976710656:=by
  refine growslice_fits q ?_;have:=h6 g (Nat.le_of_lt a.bytes);unfold cZ at this;omega
 have l:¬(281474976710656<e7 (sLen+n) sCap*i.bytes):=by omega
 have t:(sizeOf e).run P w=.ok sz w:=a.run w;have u:∀w:cN,(typeInfo e).run P w=.ok i w:=fun w=>by simp[typeInfo,a.info]
 have z:∀w:cN,(zeroValue e).run P w=.ok f w:=fun w=>by simp[zeroValue,typeInfo,a.info,y]
 simp[eo,cA a.gz,cA c,t,u,z,hx,r,m,l,Question.forced,s,aV,newRow,grownCap,Array.append_assoc];rfl
theorem JB{T X e:c6}{i:dg}{sz:Nat}(j:qM P T sz e i)(c:iF P X=true)(t:c6){g off:Nat}{sLen sCap n:Nat}{b:Array cB}{h:c6}{a:List cB}(x:cB)
 (hx:ew x=pure n)(o:w.heap[g]?=some (.cells b h (0,0)))(aV:(en sz n x).run P w=.ok a.toArray w)(l:∀u∈a,u.oneCell'=true)(q:sLen+n<=sCap)(p:off+sLen*sz+a.length<=b.size):
 (eo #[T,X] t #[.slice (some ⟨g,off,none⟩) sLen sCap,x]).run P w=
  .ok (.slice (some ⟨g,off,none⟩) (sLen+n) sCap) (w.setRow g (b.toList.take (off+sLen*sz)++a++b.toList.drop (off+sLen*sz+a.length)).toArray):=by
 have m:∃d,P.underlying X=some d/\∀k,d≠.int k:=by
  unfold iF at c
  split at c
  ·simp at c
  ·rename_i d f s;exact⟨_,s,f⟩
  ·simp at c
 obtain⟨d,f,v⟩:=m;have aH:=ed P g (off+sLen*sz) h a 0 b w o (by simpa using p) l;simp only[h4]at aH;have r:(sizeOf e).run P w=.ok sz w:=j.run w;simp[eo,cA j.gz,cA f,r,hx,q,aV,kl,aH]
theorem Vx{T X e:c6}{i:dg}{sz:Nat}(f:qM P T sz e i)(b:iF P X=true)(m:c6){p:Option Addr}{sLen sCap:Nat}(x:cB)
 (hx:ew x=pure 0)(aV:(en sz 0 x).run P w=.ok #[] w)(g:sLen<=sCap):
 (eo #[T,X] m #[.slice p sLen sCap,x]).run P w=.ok (.slice p sLen sCap) w:=by
 have j:∃d,P.underlying X=some d/\∀k,d≠.int k:=by
  unfold iF at b
  split at b
  ·simp at b
  ·rename_i d c l;exact⟨_,l,c⟩
  ·simp at b
 obtain⟨d,c,n⟩:=j;have h:(sizeOf e).run P w=.ok sz w:=f.run w;cases p with
 |none=>simp[eo,cA f.gz,cA c,h,hx,g,aV]
 |some a=>simp[eo,cA f.gz,cA c,h,hx,g,aV,storeCells]
theorem bY.drew{aF:Nat->Prop}{w1 w':cN}{aJ:Bd}{H':Heap}(a:w1.heap=w.heap)(b:w1.os=w.os/\w1.output=w.output)(h:bY P ah aa w1 β H aF w' aJ H'):bY P ah aa w β H aF w' aJ H':=
 ⟨h.bR,h.fresh,⟨by rw[<-a];exact h.ext.size,fun k hk=>by rw[<-a];exact h.ext.same k hk,h.ext.io.1.trans b.1,h.ext.io.2.trans b.2⟩,h.step,h.rel,h.fp,h.loop⟩
theorem JC(z:Array cB)(n:Nat):(e6 z n).size=n*z.size:=by simp[e6]
theorem wM{ai:Nat}:∀{b:List AV}{a:List (List cB)},Row P w aa β H ai b a->∀c∈a.flatten,c.oneCell'=true
 |[],a,h=>by rw[im]at h;subst h;simp
 |v::b,a,h=>by
  rw[qP]at h;obtain⟨c,cs,rfl,d,_,e⟩:=h;intro x hx;simp only[hw,hz]at hx;exact hx.elim (zB d x) (wM e x)
theorem Row.mono{w':cN}{aF:Nat->Prop}{aJ:Bd}{H':Heap}(hI:∀k,aa k->aF k)(hs:∀k,aa k->w'.heap[k]?=w.heap[k]?)(aH:cd β H aJ H'){ai:Nat}{a:List AV}{b:List (List cB)}(c:aS (aI H) a)
 (h:Row P w aa β H ai a b):Row P w' aF aJ H' ai a b:=bM.mono hI hs aH _ _ _ c h
theorem yD{c:Call}{s x:cC}(e:o.op= .call c)(hc:c.callee= .builtin .append)(b:c.args.toList=[s,x]){a:cC->cB}{w w':cN}{v:cB}
 (h:(eo c.argTypes o.type #[a s,a x]).run P w=.ok v w'):(c9 a o).run P w=.ok (.value v) w':=by
 have d:c.args=#[s,x]:=by apply b2;simpa using b
 simp only[c9,e,resolve,hc,d];simp[invoke,builtin,h]
theorem W2{c:Call}{s x:cC}(e:o.op= .call c)(hc:c.callee= .builtin .copy)(b:c.args.toList=[s,x]){a:cC->cB}{w w':cN}{v:cB}
 (h:(e8 c.argTypes o.type #[a s,a x]).run P w=.ok v w'):(c9 a o).run P w=.ok (.value v) w':=by
 have d:c.args=#[s,x]:=by apply b2;simpa using b
 simp only[c9,e,resolve,hc,d];simp[invoke,builtin,h]
end
end Go.au
