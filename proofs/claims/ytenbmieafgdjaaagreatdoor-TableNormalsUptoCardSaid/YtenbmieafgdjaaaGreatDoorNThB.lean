import Derived.Test.YtenbmieafgdjaaaGreatDoorNThA
import Derived.RangeFuncRecord
import Derived.RangeFuncNested
import Derived.Lib.Strings
import Derived.Laws.Append
/- Parts of a proof. -/
set_option linter.unusedSimpArgs false
set_option linter.unusedVariables false
set_option linter.unusedSectionVars false
open Array renaming replicate->bo, getElem?_eq_some_iff->br, range->bv, mem_toList_iff->b0, ext'->b1, getD_eq_getD_getElem?->b2, mapM_eq_mapM_toList->b3, mem_of_getElem?->b4, getElem?_toList->b5, getElem_toList->cb, foldl_toList->cc, toList_map->ce, getD->ck
open Bool renaming false_eq_true->cv, and_eq_true->cx
open Go renaming run_underlying->cy, Value->c6, Operand->c9, World->da, TypeId->db, execOp->dg, Program->dk, Deferred->dl, TypeInfo->dp, Frame->dq, ResultVar->dz, Steps->ea, Machine->eb, FuncId->ec, run_newObj->ed, setRow_other->ee, run_firstCells_some->ei, run_storeCells_at->ej, IntKind->em, step_lone_go->en, setRow_size->eo, setRow_heap->eq
open Go.Builtin renaming firstCells->ew, append_->e6, len_->e7, lenOf->e8, zeroCells->e9, nextslicecap->fb, copy_->fl
open Go.Instr renaming sliceBounds->fm, slice->fv, sureAddr->fI, sliceBound->ga, indexAt->gb, sliceAt->gc, fill->ge, build->gg
open Go.Op renaming operands->gi, unary->gj, intArith->gl, intBits->gm
open Go.Program renaming cellsOf->gt, underlying->gx, underlyingId->gy
open Go.Region renaming wanted->g0
open Go.Result renaming andThen_ok->g7
open Go.Sem renaming run_bind->g8, run_pure->g9, run_map->ha, run->hb
open Go.Steps renaming one->hd, trans->he, refl->hg
open Go.Value renaming oneCell'->hh, int->hj, cells->hm
open Go.World renaming putObj_heap_other->hn, size_alloc->ho
open List renaming getElem?_eq_some_iff->hp, replicate->hr, getElem?_set_self->ht, sum_replicate_nat->hv, take_replicate->hw, getElem?_eq_getElem->hy, length_eq_zero_iff->hz, getElem?_replicate->hA, flatten_cons->hB, append_assoc->hC, mem_append->hD, mem_of_getElem?->hE, getElem?_set_ne->hF, drop_take->hG, range'->hH, length->hJ, mem_or_eq_of_mem_set->hK, getElem_append_right->hL, getElem_append_left->hM, eq_of_mem_replicate->hN, getElem?_cons_succ->hO, mem_of_mem_take->hP, mem_of_mem_drop->hQ, replicate_succ->hR, flatten_append->hS, mem_singleton->hT, getElem?_map->hU, length_cons->hV, getElem_mem->hW, all_eq_true->hX, append_nil->hZ, mapM_cons->h0, map_take->h1, map_cons->h2, mem_map->h3
open Nat renaming le_refl->h4, min_eq_left->h5, lt_irrefl->h6, add_zero->h7, add_sub_cancel_left->h8, mul_le_mul->h9, add_assoc->ih, add_mul->ii
open Option renaming isSome_iff_exists->ik, map_none->ip, bind_some->ix, map_some->iz
open Option.some renaming injEq->i0, inj->i1
open Prod renaming snd->i2, fst->i3
namespace Go.au
set_option linter.unusedSectionVars false
variable[Gl]
section
variable{P:dk}{ag:ec->Bool}{n N:Nat}
variable{fr:dq}{k:List Item}{cs:List dq}{ops:Array Oper}{i:Nat}{r:List Nat}{ds:List dl}
theorem Rw{o:Oper}{f:c9}{a:Array c9}{p:Array db}{b:Nat}{H':Heap}{v:AV}{K:St->Prop}{s:St}{ah aa:Nat->Prop}{β:Bd}{t:Array c6}{w:da}
 (l:o.op=.call {callee:=.value f,args:=a,argTypes:=p})(hf:ev s.env f=.map b)(m:ia P b s.heap (a.toList.map (ev s.env)) H' v)(x:K ⟨put o.dst v s.env,H'⟩)
 (d:cL P n ah aa β s t w)(A:iG n o=true)(j:ops[i]?=some o)(D:g0 o (yielded ops t)=true):
 jN P n N fr k cs ops ah aa w β s.heap (lone (bA fr t ds (.inRegion ops (i::r)::k)) cs w) r ds K:=by
 have e:=(ny d f).1;rw[hf]at e;simp only[ar,bI,bO]at e;have B:=e.2.2 m.1;obtain⟨y,z⟩:=uf d a.toList;have h:(dg (fj t) o).run P w=(Instr.yield (β.ak b) (a.toList.map (fj t)).toArray).run P w:=by
  simp only[dg,l,resolve,B,Deferred.ofValue,g8,g9,g7,invoke];congr 2;exact b1 (by simp)
 have C:∀c,o.op≠.defer c:=fun c hc=>by rw[l]at hc;cases hc
 obtain⟨g,tmps,assign,body,q,u⟩:=m.2 w aa ah β _ d.heap y z;rw[q]at h;obtain⟨E,w',aJ,aD,g1,g2,g3,g4⟩:=u (bA fr t ds (.inRegion ops (i::r)::k)) cs;refine⟨_,aD,aJ,_,w',x,?_,d.put A g2 g3 g4,g2.eO⟩;rw[<-mQ j];exact(hd (Hn j D C h)).trans g1
theorem IP(y:kZ P ag){d:Bool}{o:Oper}{K:St->Prop}{s:St}{ah aa:Nat->Prop}{β:Bd}{t:Array c6}{w:da}
 (h:jl P ag d o K s)(a:cL P n ah aa β s t w)(c:iG n o=true)(j:ops[i]?=some o)(l:g0 o (yielded ops t)=true):
 jN P n N fr k cs ops ah aa w β s.heap (lone (bA fr t ds (.inRegion ops (i::r)::k)) cs w) r ds K:=by
 have E:=Rf h;have z:fh P ag o (ev s.env) s.heap (fun e=>K (e.app o.dst s))->jN P n N fr k cs ops ah aa w β s.heap (lone (bA fr t ds (.inRegion ops (i::r)::k)) cs w) r ds K:=by
  intro h;obtain⟨e,m,hs,aj,aK⟩:=y o _ _ _ (fun v=>rfl) h;obtain⟨nx,I,w',aJ,aD,A,B,u,C,D⟩:=hs.use a.heap (fun x _=>ny a x) aj (fun p F=>(aK p F).1);exact⟨_,aD,aJ,_,w',m,.one (rA j l E A B),a.put c u C D,u.eO⟩
 unfold jl at h
 split at h
 ·rename_i f args H q
  split at h
  ·rename_i g fi ca hf;exact G9 q (.inr ⟨fi,ca,hf,rfl,rfl⟩) h a c j l
  ·rename_i g fi ca hf;exact G9 q (.inl hf) h a c j l
  ·rename_i b hf;obtain⟨H',v,G,m⟩:=h;exact Rw q hf G m a c j l
  ·exact h.elim
 ·exact z h
theorem jN.mono{m:eb}{K a:St->Prop}{ah aa:Nat->Prop}{w:da}{β:Bd}{H:Heap}(h:jN P n N fr k cs ops ah aa w β H m r ds K)(hk:∀s,K s->a s):jN P n N fr k cs ops ah aa w β H m r ds a:=by
 obtain⟨s',aD,aJ,t',w',b,c⟩:=h;exact⟨s',aD,aJ,t',w',hk _ b,c⟩
theorem wQ{s:St}{ah aa:Nat->Prop}{β:Bd}{t:Array c6}{w:da}(e:cL P n ah aa β s t w)(l:∀o∈ops.toList,iG n o=true)(j:Nat):
 (∀b,guardOf ops j s.env=.p (.bool b)->yielded ops t j=some b)/\(guardOf ops j s.env=.p (.aC [])->yielded ops t j=none):=by
 unfold guardOf yielded;cases k:ops[j]? with
 |none=>simp
 |some f=>
  simp only[ix];cases g:f.dst with
  |none=>simp
  |some d=>
   simp only[ix];have h:d<t.size:=by
    have:=l f (by rw[b0];exact b4 k);unfold iG at this;rw[g]at this;rw[e.size];simpa using this
   have a:=e.env d;have i:t[d]?=some (t.getD d undef):=by simp[ck,h]
   rw[i];constructor
   ·intro b c;rw[c]at a;simp only[ar,aw]at a;rw[a]
   ·intro c;rw[c]at a;simp only[ar,aw,bg]at a;obtain⟨xs,rfl,a⟩:=a;rw[a]
theorem HP(f:kZ P ag){d:Bool}(v:∀o∈ops.toList,iG n o=true):∀(l:List Oper)(i:Nat){K:St->Prop}{s:St}{ah aa:Nat->Prop}{β:Bd}{t:Array c6}{w:da},
 ops.toList.drop i=l->gG P ag d ops l K s->cL P n ah aa β s t w->
 jN P n N fr k cs ops ah aa w β s.heap (lone (bA fr t ds (.inRegion ops (hH i l.length)::k)) cs w) [] ds K
 |[],i,K,s,ah,aa,β,t,w,hl,h,a=>⟨s,aa,β,t,w,h,hg _ _,a,dI.refl _ _ _ _ _ _⟩
 |o::l,i,K,s,ah,aa,β,t,w,hl,h,a=>by
  have e:ops[i]?=some o:=by
   have:(ops.toList.drop i)[0]?=some o:=by rw[hl];rfl
   rw[List.getElem?_drop]at this;simpa using this
  have E:ops.toList.drop (i+1)=l:=by
   rw[<-List.drop_drop,hl];rfl
  have u:iG n o=true:=v o (by rw[b0];exact b4 e);have g:∀{ah aa w β H}{m:eb},jN P n N fr k cs ops ah aa w β H m (hH (i+1) l.length) ds (gG P ag d ops l K)->jN P n N fr k cs ops ah aa w β H m [] ds K:=by
   intro ah aa w β H m D;obtain⟨s',aD,aJ,J,w',z,A,B,C⟩:=D;obtain⟨s2,y,I,t2,G,g1,g2,g3,g4⟩:=HP f v l (i+1) E z B;exact⟨s2,y,I,t2,G,g1,A.trans g2,g3,C.trans g4⟩
  rw[hV,List.range'_succ]
  have skip:gG P ag d ops l K ⟨put o.dst (.p (.aC [])) s.env,s.heap⟩->g0 o (yielded ops t)=false->
   jN P n N fr k cs ops ah aa w β s.heap (lone (bA fr t ds (.inRegion ops (i::hH (i+1) l.length)::k)) cs w) [] ds K:=by
   intro hk F;refine g ⟨_,aa,β,_,w,hk,.one (H4 e F),a.put u (bU.refl a.heap) (by simp[ar,aw,bg,undef]) (by simp[aB]),dI.refl _ _ _ _ _ _⟩
  simp only[gG]at h
  split at h
  ·rename_i c;exact g (IP f h a u e (by simp[g0,c]))
  ·rename_i j L c;obtain⟨g1,g2⟩:=wQ a v j
   split at h
   ·rename_i b q;have x:=g1 b q
    split at h
    ·rename_i r;exact g (IP f h a u e (by simp[g0,c,x,r]))
    ·rename_i r;exact skip h (by simp[g0,c,x,r])
   ·rename_i q;exact skip h (by simp[g0,c,g2 q])
   ·exact h.elim
theorem azv{H:Heap}{b v:Nat}(h:H[b]?=none\/H[b]?=some .hole):¬aH H (b,v):=by
 rintro⟨o,a,c⟩;rcases h with h|h
 ·simp only at a;rw[h]at a;cases a
 ·simp only at a;rw[h]at a;cases a;exact c
theorem oP.step{s s':St}{β:Bd}(hf:oP s s'):b8 β s.heap β s'.heap:=by
 refine⟨?_,?_,?_,?_,?_⟩
 ·rintro b _ ⟨fz,t,a⟩;rcases hf.heap b _ a with h|h|⟨_,k,z,h,_⟩|⟨v,v',h,_,_⟩
  ·cases h
  ·exact⟨⟨fz,t,h⟩,rfl⟩
  ·cases h
  ·exact⟨⟨_,_,h⟩,rfl⟩
 ·rintro b _ ⟨fz,t,a⟩;rcases hf.heap b _ a with h|h|⟨_,k,z,h,_⟩|⟨v,v',_,h,_⟩
  ·cases h
  ·exact⟨⟨fz,t,h⟩,rfl⟩
  ·cases h
  ·cases h
 ·rintro b _ ⟨o,a,c⟩;rcases hf.heap b _ a with h|h|⟨_,k,z,h,_⟩|⟨v,v',_,h,_⟩
  ·rw[h]at c;exact c.elim
  ·exact⟨⟨o,h,c⟩,rfl⟩
  ·rw[h]at c;exact c.elim
  ·rw[h]at c;exact c.elim
 ·intro b al ai k d hi a;rcases hf.heap b _ a with h|h|⟨e,_⟩|⟨v,v',_,h,_⟩
  ·cases h
  ·exact⟨k,d,h,h4 _,Iff.rfl,fun _=>⟨rfl,rfl⟩⟩
  ·exact(azv e hi).elim
  ·cases h
 ·rintro b _ ⟨L,a⟩;rcases hf.heap b _ a with h|h|⟨_,k,z,h,_⟩|⟨v,v',_,h,_⟩
  ·cases h
  ·exact⟨⟨L,h⟩,rfl⟩
  ·cases h
  ·cases h
section X2
variable{w:da}{aa:Nat->Prop}{β:Bd}{T:Heap}
theorem Ms{b al ai off len:Nat}(h:al=0/\off=0/\len=0/\∃k z,T[b]?=some (.arr k 0 z [])/\k.gr=true):bI P β T (.sl b al ai off len) (.slice none 0 0):=by
 obtain⟨rfl,rfl,rfl,k,z,a,c⟩:=h;refine⟨by simp[hh],fun e d hl=>?_⟩;unfold ez at hl;rw[a]at hl;cases hl;exact⟨by simp,fun _=>rfl,fun h=>(h ⟨c,rfl⟩).elim⟩
mutual
theorem fC.cells:∀(v:PV)(x:AV)(cs:List c6),fC T v x->aV P w aa v cs->bf P w aa β T x cs
 | .aG,x,cs,h,hc=>by
  simp only[fC]at h;rcases h with rfl|h
  ·simpa only[bf]using hc
  ·cases x<;>simp only at h<;>try exact h.elim
   simp only[aV]at hc;simp only[bf];exact⟨_,hc,Ms h⟩
 | .st u fs,x,cs,h,hc=>by
  simp only[fC]at h;rcases h with rfl|h
  ·simpa only[bf]using hc
  ·cases x<;>simp only at h<;>try exact h.elim
   obtain⟨rfl,h⟩:=h;simp only[aV]at hc;obtain⟨l,a,d,e,f⟩:=hc;simp only[bf];exact⟨l,a,d,kq.cells l fs _ a h e,f⟩
 | .undef,x,cs,h,hc| .bool _,x,cs,h,hc| .int _ _,x,cs,h,hc| .str _,x,cs,h,hc| .dD,x,cs,h,hc| .cz _,x,cs,h,hc| .bw _ _,x,cs,h,hc| .seq _,x,cs,h,hc| .ff,x,cs,h,hc| .eE _,x,cs,h,hc| .func _ _ _,x,cs,h,hc| .gV,x,cs,h,hc| .fF,x,cs,h,hc| .aC _,x,cs,h,hc=>by
  simp only[fC]at h;subst h;simpa only[bf]using hc
theorem kq.cells:∀(l:List Nat)(fs:List PV)(b:List AV)(a:List (List c6)),kq T fs b->bc P w aa l fs a->bH P w aa β T l b a
 |l,[],b,a,h,hc=>by
  simp only[kq]at h;subst h;cases l<;>simp_all [bH,bc]
 |l,v::vs,b,a,h,hc=>by
  cases b with
  |nil=>simp[kq]at h
  |cons g b=>
   simp only[kq]at h;cases l with
   |nil=>simp[bc]at hc
   |cons n l=>
    simp only[bc]at hc;obtain⟨c,cs,d,e,f,i⟩:=hc;simp only[bH];exact⟨c,cs,d,fC.cells v g c h.1 e,f,kq.cells l vs b cs h.2 i⟩
end
theorem fC.Dz(v:PV)(x:AV)(y:c6)(h:fC T v x)(hc:aw P w aa v y):ar P w aa β T x y:=by
 cases v
 case aG=>
  simp only[fC]at h;rcases h with rfl|h
  ·simpa only[ar]using hc
  ·cases x<;>simp only at h<;>try exact h.elim
   simp only[aw]at hc;subst hc;simp only[ar];exact Ms h
 case st u fs=>
  simp only[fC]at h;rcases h with rfl|h
  ·simpa only[ar]using hc
  ·cases x<;>simp only at h<;>try exact h.elim
   obtain⟨rfl,h⟩:=h;simp only[aw]at hc;obtain⟨l,a,b,c,d⟩:=hc;simp only[ar];exact⟨l,a,b,kq.cells l fs _ a h c,d⟩
 all_goals simp only[fC]at h;subst h;simpa only[ar]using hc
mutual
theorem Gh.cells:∀(v x:AV)(cs:List c6),Gh T v x->bf P w aa β T v cs->bf P w aa β T x cs
 | .p v,x,cs,h,hc=>by simp only[Gh]at h;simp only[bf]at hc;exact fC.cells v x cs h hc
 | .st u fs,x,cs,h,hc=>by
  simp only[Gh]at h;cases x<;>simp only at h<;>try exact h.elim
  obtain⟨rfl,h⟩:=h;simp only[bf]at hc⊢;obtain⟨l,a,d,e,f⟩:=hc;exact⟨l,a,d,lS.cells l fs _ a h e,f⟩
 | .ptr _ _,x,cs,h,hc| .bX _ _ _ _ _,x,cs,h,hc| .sl _ _ _ _ _,x,cs,h,hc| .map _,x,cs,h,hc| .func _ _ _,x,cs,h,hc| .aC _,x,cs,h,hc=>by simp only[Gh]at h;subst h;exact hc
theorem lS.cells:∀(l:List Nat)(fs b:List AV)(a:List (List c6)),lS T fs b->bH P w aa β T l fs a->bH P w aa β T l b a
 |l,[],b,a,h,hc=>by simp only[lS]at h;subst h;exact hc
 |l,v::vs,b,a,h,hc=>by
  cases b with
  |nil=>simp[lS]at h
  |cons g b=>
   simp only[lS]at h;cases l with
   |nil=>simp[bH]at hc
   |cons n l=>
    simp only[bH]at hc⊢;obtain⟨c,cs,d,e,f,i⟩:=hc;exact⟨c,cs,d,Gh.cells v g c h.1 e,f,lS.cells l vs b cs h.2 i⟩
end
theorem Gh.Dz(v x:AV)(y:c6)(h:Gh T v x)(hc:ar P w aa β T v y):ar P w aa β T x y:=by
 cases v
 case p v=>simp only[Gh]at h;simp only[ar]at hc;exact fC.Dz v x y h hc
 case st u fs=>
  simp only[Gh]at h;cases x<;>simp only at h<;>try exact h.elim
  obtain⟨rfl,h⟩:=h;simp only[ar]at hc⊢;obtain⟨l,a,b,c,d⟩:=hc;exact⟨l,a,b,lS.cells l fs _ a h c,d⟩
 all_goals simp only[Gh]at h;subst h;exact hc
theorem fC.aL{v:PV}{x:AV}(h:fC T v x):ad x=au.aL v:=by
 cases v
 case aG=>
  simp only[fC]at h;rcases h with rfl|h
  ·rfl
  ·cases x<;>simp only at h<;>first|exact h.elim|rfl
 case st u fs=>
  simp only[fC]at h;rcases h with rfl|h
  ·rfl
  ·cases x<;>simp only at h<;>try exact h.elim
   simp[ad,au.aL,h.1]
 all_goals simp only[fC]at h;subst h;rfl
theorem Gh.aL{v x:AV}(h:Gh T v x):ad x=ad v:=by
 cases v
 case p v=>simp only[Gh]at h;exact h.aL
 case st u fs=>
  simp only[Gh]at h;cases x<;>simp only at h<;>try exact h.elim
  simp[ad,h.1]
 all_goals simp only[Gh]at h;subst h;rfl
end X2
theorem dJ.eO{s s':St}{β:Bd}{ah aa:Nat->Prop}{w:da}(hf:dJ N s s'):dI N ah aa w β s.heap ah aa w β s'.heap:=by
 rcases hf with rfl|hf
 ·exact dI.refl _ _ _ _ _ _
 ·exact⟨fun _ h=>h,fun _ h=>h,fun _ h=>.inl h,Ext.refl _ _ _,hf.1.step.n,fun x a⟨o,e,d⟩=>⟨o,by rw[hf.2 _ a];exact e,d⟩,fun b a⟨L,c⟩=>⟨L,by rw[hf.2 _ a];exact c⟩⟩
theorem oP.rel{s s':St}{ah aa:Nat->Prop}{β:Bd}{t:Array c6}{w:da}(hf:oP s s')(h:cL P n ah aa β s t w):cL P n ah aa β s' t w:=by
 have aI:b8 β s.heap β s'.heap:=hf.step;refine⟨⟨?_,?_,hf.hrefs,h.heap.bR,h.heap.dT,h.heap.gU⟩,fun x=>?_,hf.gn,h.size⟩
 ·intro b o E;rcases hf.heap b o E with rfl|i|⟨_,k,z,rfl,hk⟩|⟨v,v',i,rfl,q⟩
  ·trivial
  rotate_left
  ·exact .inl ⟨hk,rfl⟩
  ·have d:=h.heap.cF b _ i;have g:=h.heap.refs b _ i;obtain⟨cs,T,a,c,e,l,C⟩:=d;exact⟨cs,T,a,Gh.cells _ _ _ q (bf.mono (fun _ x=>x) (fun _ _=>rfl) aI _ _ g c),e,(fun h=>by cases h),by rw[q.aL];exact C⟩
  ·have d:=h.heap.cF b o i;have g:=h.heap.refs b o i;cases o with
   |hole=>trivial
   |dead=>trivial
   |box fz t=>
    obtain⟨cs,T,a,c,e⟩:=d;exact⟨cs,T,a,bf.mono (fun _ x=>x) (fun _ _=>rfl) aI _ _ g c,e⟩
   |arr k al ai es=>
    rcases d with d|⟨cs,T,A,rest,a,c,e⟩
    ·exact .inl d
    ·exact .inr ⟨cs,T,A,rest,a,bH.mono (fun _ x=>x) (fun _ _=>rfl) aI _ _ _ g c,e⟩
   |map fz es=>exact d
   |dt ks vs=>
    obtain⟨B,clock,a,c,e,l⟩:=d;exact⟨B,clock,a,c,bt.mono (fun _ x=>x) (fun _ _=>rfl) aI _ _ g e,l⟩
   |dv s pos=>exact d
   |loop L=>
    obtain⟨tmps,defers,fn,a,c,e,l⟩:=d;exact⟨tmps,defers,fn,a,c,fun x=>ar.mono (fun _ x=>x) (fun _ _=>rfl) aI _ _ (g x) (e x),l⟩
 ·intro x y H I a c m p D f;have u:∀{z:Nat}{o:Obj},s'.heap[z]?=some o->o.live->∃o',s.heap[z]?=some o'/\o'.live:=by
   intro z o j hl;rcases hf.heap z o j with rfl|j|⟨_,k,_,rfl,hk⟩|⟨v,v',j,_,_⟩
   ·exact hl.elim
   ·exact⟨o,j,hl⟩
   ·exact(hl ⟨hk,rfl⟩).elim
   ·exact⟨_,j,trivial⟩
  obtain⟨F,a,m⟩:=u a m;obtain⟨G,c,p⟩:=u c p;exact h.heap.inj x y F G a c m p D f
 ·have r:=ar.mono (fun _ x=>x) (fun _ _=>rfl) aI _ _ (h.gn x) (h.env x);rcases hf.env x with f|f|f
  ·rw[f];exact r
  ·rw[f];simp[ar,aw]
  ·exact Gh.Dz _ _ _ f r
theorem dJ.rel{s s':St}{ah aa:Nat->Prop}{β:Bd}{t:Array c6}{w:da}(hf:dJ N s s')(h:cL P n ah aa β s t w):cL P n ah aa β s' t w:=by
 rcases hf with rfl|hf
 ·exact h
 ·exact hf.1.rel h
def mw(P:dk)(fr:dq)(k:List Item)(cs:List dq)(m:eb)(t:Array c6)(ds:List dl)(w:da):bn->Prop
 | .normal=>ea P m (lone (bA fr t ds k) cs w)
 | .exit id=>∃a,exitTo id a=exitTo id k/\ea P m (lone (bA fr t ds (.code (.exit id)::a)) cs w)
 | .ret=>∃a,ea P m (lone (bA fr t ds (.code .ret::a)) cs w)
theorem mw.of_steps{m f:eb}{t:Array c6}{ds:List dl}{w:da}{e:bn}(h:ea P m f)(c:mw P fr k cs f t ds w e):mw P fr k cs m t ds w e:=by
 cases e with
 |normal=>exact h.trans c
 |exit id=>obtain⟨d,a,b⟩:=c;exact⟨d,a,h.trans b⟩
 |ret=>obtain⟨d,b⟩:=c;exact⟨d,h.trans b⟩
def mark(r:Nat):dl:={target:=.collected r,args:=#[]}
def Marks(fr:dq)(ah:Nat->Prop)(w:da)(jF aD:Nat->Prop)(w':da)(b c:List dl):Prop:=
 ∃a:List Nat,c=a.map mark++b/\a.Nodup/\(∀r∈a,w.heap.size<=r/\jF r/\¬aD r/\w'.heap[r]?=some (.deferred (some [])))/\(∀k,jF k->ah k\/k∈a)/\(fr.roundOf.isSome=true->a=[])
theorem Marks.refl(fr:dq)(ah aD:Nat->Prop)(w w':da)(ds:List dl):Marks fr ah w ah aD w' ds ds:=⟨[],rfl,List.nodup_nil,by simp,fun _ h=>.inl h,fun _=>rfl⟩
theorem Marks.trans{fr:dq}{N:Nat}{ah aa d e g f:Nat->Prop}{w w1 l:da}{β p B:Bd}{H H1 q:Heap}{ds m n:List dl}(h:Marks fr ah w d e w1 ds m)(i:dI N ah aa w β H d e w1 p H1)
 (s:Marks fr d w1 g f l m n)(j:dI N d e w1 p H1 g f l B q):Marks fr ah w g f l ds n:=by
 obtain⟨rs,rfl,t,o,u,v⟩:=h;obtain⟨A,rfl,g2,g3,g4,g5⟩:=s;refine⟨A++rs,by simp,?_,?_,?_,fun hx=>by simp[v hx,g5 hx]⟩
 ·rw[List.nodup_append];refine⟨g2,t,fun a i b y x=>?_⟩;subst x;have C:=(g3 a i).1;have D:=(br.1 (o a y).2.2.2).1;omega
 ·intro r c;rcases hD.1 c with c|c
  ·obtain⟨k1,k2⟩:=g3 r c;exact⟨Nat.le_trans i.ext.size k1,k2⟩
  ·obtain⟨k1,k2,k3,k4⟩:=o r c;exact⟨k1,j.dT _ k2,fun hx=>(j.fresh _ hx).elim k3 (fun z=>z k2),(j.ext.same _ (.inl k2)).trans k4⟩
 ·intro k hk;rcases g4 k hk with hk|hk
  ·rcases u k hk with hk|hk
   ·exact .inl hk
   ·exact .inr (by simp[hk])
  ·exact .inr (by simp[hk])
def qg(N:Nat)(fr:dq)(β:Bd)(H:Heap):Prop:=∀l,fr.roundOf=some l->∃b,b<N/\gC H b/\β.ak b=l
theorem qg.eO{fr:dq}{β aJ:Bd}{H H':Heap}{ah aa jF aD:Nat->Prop}{w w':da}(h:qg N fr β H)(e:dI N ah aa w β H jF aD w' aJ H'):qg N fr aJ H':=by
 intro l hl;obtain⟨b,a,c,f⟩:=h l hl;have d:=e.loop b a c;obtain⟨L,g⟩:=c;exact⟨b,a,d,((e.step.loop b a ⟨_,g,trivial⟩ d).2).trans f⟩
def pC(P:dk)(n N:Nat)(fr:dq)(k:List Item)(cs:List dq)(ah aa:Nat->Prop)(w:da)(β:Bd)(H:Heap)(m:eb)(c:List dl)(Q:bn->St->Prop):Prop:=
 ∃e s' jF aD aJ b w' a,Q e s'/\mw P fr k cs m b a w' e/\cL P n jF aD aJ s' b w'/\dI N ah aa w β H jF aD w' aJ s'.heap/\Marks fr ah w jF aD w' c a
theorem pC.of{k:List Item}{ah aa:Nat->Prop}{w:da}{β:Bd}{H:Heap}{m:eb}{ds:List dl}{Q:bn->St->Prop}{e:bn}{s':St}{aD:Nat->Prop}{aJ:Bd}{a:Array c6}{w':da}(hq:Q e s')(hl:mw P fr k cs m a ds w' e)
 (c:cL P n ah aD aJ s' a w')(b:dI N ah aa w β H ah aD w' aJ s'.heap):pC P n N fr k cs ah aa w β H m ds Q:=⟨e,s',ah,aD,aJ,a,w',ds,hq,hl,c,b,Marks.refl _ _ _ _ _ _⟩
theorem pC.next{k:List Item}{ah aa b a:Nat->Prop}{w c:da}{β i:Bd}{H H1:Heap}{m g:eb}{d e:List dl}{Q:bn->St->Prop}(f:dI N ah aa w β H b a c i H1)(p:Marks fr ah w b a c d e)(aI:ea P m g)
 (h:pC P n N fr k cs b a c i H1 g e Q):pC P n N fr k cs ah aa w β H m d Q:=by
 obtain⟨e2,s2,l,j,r,t2,q,o,g1,g2,g3,g4,g5⟩:=h;exact⟨e2,s2,l,j,r,t2,q,o,g1,.of_steps aI g2,g3,f.trans g4,p.trans f g5 g4⟩
def codeOk(fit:Nat->Array Oper->Bool)(n:Nat):Code->Bool
 | .region _ ops draw=>ops.toList.all (iG n)&&(!draw||fit n ops)
 | .seq a b=>codeOk fit n a&&codeOk fit n b
 | .cond _ a b=>codeOk fit n a&&codeOk fit n b
 | .block _ b| .scope b| .loop b=>codeOk fit n b
 | .rangeFunc _ _ a b=>codeOk fit n a&&codeOk fit n b
 |_=>true
def rL(P:dk)(ag:ec->Bool)(fit:Nat->Array Oper->Bool):Prop:=
 ∀(n N:Nat)(a:Array Oper)(fr:dq)(k:List Item)(cs:List dq)(b:List dl)(c:Nat)(K:St->Prop)(s:St)(ah aa:Nat->Prop)(β:Bd)(t:Array c6)(w:da),
  fit n a=true->(∀o∈a.toList,iG n o=true)->fO P ag a a.toList 0 [] K s->cL P n ah aa β s t w->
  jN P n N fr k cs a ah aa w β s.heap (lone (bA fr t b (.inRegion a (Region.schedule (P.follows .mixedOrders) a c)::k)) cs w) [] b K
theorem cL.draw{s:St}{ah aa:Nat->Prop}{β:Bd}{t:Array c6}{w w':da}(a:w'.heap=w.heap)(h:cL P n ah aa β s t w):cL P n ah aa β s t w':=
 ⟨h.heap.uk a,fun x=>ar.mono (fun _ x=>x) (fun _ _=>by rw[a]) (b8.refl _ _) _ _ (h.gn x) (h.env x),h.gn,h.size⟩
section rf
variable{w w':da}{aa ah:Nat->Prop}{β:Bd}{H:Heap}
theorem bQ.II(h:bQ P w aa β H ah){x:Nat}(hx:x<w.heap.size)(u:∀(b:Nat)(o:Obj),H[b]?=some o->o.live->β.ak b≠x):bQ P w aa β H (fun k=>ah k\/k=x):=by
 refine⟨fun b o l=>?_,h.inj,h.refs,h.bR,fun k hk=>hk.elim (h.dT k) (fun e=>e▸hx),h.gU⟩;have held:∀fz,o.live->cB aa β ah fz b->cB aa β (fun k=>ah k\/k=x) fz b:=by
  intro fz hl i;unfold cB at i⊢;cases fz with
  |true=>exact i
  |false=>exact⟨i.1,fun v=>v.elim i.2 (u b o l hl)⟩
 have f:=h.cF b o l;cases o with
 |hole=>trivial
 |dead=>trivial
 |box fz t=>obtain⟨cs,T,a,c,d,g⟩:=f;exact⟨cs,T,a,c,held _ trivial d,g⟩
 |arr k al ai es=>
  rcases f with f|⟨cs,T,m,rest,a,c,d,g,n,p,q,r⟩
  ·exact .inl f
  ·by_cases hl:c8 k es
   ·exact .inl hl
   ·exact .inr ⟨cs,T,m,rest,a,c,d,g,n,p,held _ hl q,r⟩
 |map fz es=>obtain⟨j,clock,a,c,d⟩:=f;exact⟨j,clock,a,c,held _ trivial d⟩
 |dt ks vs=>obtain⟨j,clock,a,c,d,g⟩:=f;exact⟨j,clock,a,c,d,held _ trivial g⟩
 |dv s pos=>obtain⟨bs,a,c,d⟩:=f;exact⟨bs,a,c,held _ trivial d⟩
 |loop L=>obtain⟨tmps,defers,fn,a,c,d,g⟩:=f;exact⟨tmps,defers,fn,a,c,d,held _ trivial g⟩
theorem bQ.shut(h:bQ P w aa β H ah){Prot0:Nat->Prop}(q:∀k,Prot0 k->ah k){R:Nat->Prop}(m:∀x,R x->ah x/\¬aa x)(r:w'.heap.size=w.heap.size)(hs:∀k,¬R k->w'.heap[k]?=w.heap[k]?):bQ P w' aa β H Prot0:=by
 have same:∀k,aa k->w'.heap[k]?=w.heap[k]?:=fun k hk=>hs k (fun i=>(m k i).2 hk);refine⟨fun b o p=>?_,h.inj,h.refs,fun k hk=>r▸h.bR k hk,fun k hk=>r▸h.dT k (q k hk),h.gU.mono (fun _ x=>x) same⟩;have held:∀fz,cB aa β ah fz b->cB aa β Prot0 fz b:=by
  intro fz f;unfold cB at f⊢;cases fz with
  |true=>exact f
  |false=>exact⟨f.1,fun A=>f.2 (q _ A)⟩
 have ak:∀fz,cB aa β ah fz b->w'.heap[β.ak b]?=w.heap[β.ak b]?:=by
  intro fz f;refine hs _ (fun i=>?_);unfold cB at f;cases fz with
  |true=>exact(m _ i).2 f
  |false=>exact f.2 (m _ i).1
 have g:=h.cF b o p;have j:=h.refs b o p;cases o with
 |hole=>trivial
 |dead=>trivial
 |box fz t=>obtain⟨cs,T,c,d,a,e⟩:=g;exact⟨cs,T,(ak _ a).trans c,bf.mono (fun _ x=>x) same (b8.refl _ _) _ _ j d,held _ a,e⟩
 |arr k al ai es=>
  rcases g with g|⟨cs,T,u,rest,c,d,a,e,v,y,n,z⟩
  ·exact .inl g
  ·exact .inr ⟨cs,T,u,rest,(ak _ n).trans c,bH.mono (fun _ x=>x) same (b8.refl _ _) _ _ _ j d,a,e,v,y,held _ n,z⟩
 |map fz es=>obtain⟨l,clock,c,d,a⟩:=g;exact⟨l,clock,(ak _ a).trans c,cC.mono (fun _ x=>x) same _ _ d,held _ a⟩
 |dt ks vs=>obtain⟨l,clock,c,d,a,e⟩:=g;exact⟨l,clock,(ak _ e).trans c,bg.mono (fun _ x=>x) same _ _ d,bt.mono (fun _ x=>x) same (b8.refl _ _) _ _ j a,held _ e⟩
 |dv s pos=>obtain⟨bs,c,d,a⟩:=g;exact⟨bs,(ak _ a).trans c,d,held _ a⟩
 |loop L=>obtain⟨tmps,defers,fn,c,d,a,e⟩:=g;exact⟨tmps,defers,fn,(ak _ e).trans c,d,fun x=>ar.mono (fun _ x=>x) same (b8.refl _ _) _ _ (j x) (a x),held _ e⟩
theorem BU(H:Heap)(o:Obj):(H++hr 1 Obj.hole).set H.length o=H++[o]:=by
 rw[List.set_append_right _ _ (h4 _)];simp
theorem JM(a:bQ P w aa β H ah){L:eU}{tmps:Array c6}{defers fn:Nat}(h:tmps.size=L.n)(l:∀x,ar P w aa β H (aM L.env x) (tmps.getD x undef))(c:∀x,aB (aH H) (aM L.env x)):
 bU P ah aa w β H aa (w.alloc (.loop {state:=L.st,pending:=L.pending,fn,tmps,params:=L.params.toArray,assign:=L.assign,body:=L.body,defers})) (β.at H.length w.heap.size 0) (H++[.loop L]):=by
 have d:bU P ah aa w β H aa w β (H++hr 1 .hole):=⟨fun _ x=>x,fun _ x=>.inl x,Ext.refl _ _ _,nZ _ _ _,a.my _,l8 _ _,fun b⟨L,e⟩=>⟨L,by rw[jG,if_pos (hp.1 e).1];exact e⟩⟩
 have f:(H++hr 1 Obj.hole)[H.length]?=some .hole:=by rw[jG];simp
 have aI:=(nZ β H 1)
 have j:=xe (β:=β) f (.loop L) w.heap.size 0;have hrefs:∀x,aB (aH ((H++hr 1 Obj.hole).set H.length (.loop L))) (aM L.env x):=by
  intro x;rw[BU];exact aB.mono (fun y m=>Is m) _ (c x)
 have g:=rO (cap:=0) d.rel f (ob:=.loop {state:=L.st,pending:=L.pending,fn,tmps,params:=L.params.toArray,assign:=L.assign,body:=L.body,defers}) (o':=.loop L)
  ⟨tmps,defers,fn,by simp[Bd.at],h,fun x=>ar.mono (fun _ x=>x) (fun k hk=>tZ w _ (a.bR k hk)) j _ _ (aB.mono (l8 _ _) _ (c x)) (ar.mono (fun _ x=>x) (fun _ _=>rfl) aI _ _ (c x) (l x)),?_⟩ hrefs
 ·rw[BU]at g;exact d.trans g
 ·unfold cB;simp only[cv,if_false,Bd.at,if_true];exact⟨fun hi=>by have:=a.bR _ hi;omega,fun i=>by have:=a.dT _ i;omega⟩
theorem Bo(g:bQ P w aa β H ah){b:Nat}{L:eU}(a:H[b]?=some (.loop L))(st:LoopState)(d:Option Code):
 ∃rec:Loop,w.heap[β.ak b]?=some (.loop rec)/\rec.state=L.st/\rec.pending=L.pending/\rec.params=L.params.toArray/\rec.assign=L.assign/\rec.body=L.body/\rec.tmps.size=L.n/\(∀x,ar P w aa β H (aM L.env x) (rec.tmps.getD x undef))/\
  bU P ah aa w β H aa (w.putObj (β.ak b) (.loop {rec with state:=st,pending:=d})) β (H.set b (.loop {L with st:=st,pending:=d})):=by
 obtain⟨tmps,defers,fn,p,q,r,c⟩:=g.cF b _ a;refine⟨_,p,rfl,rfl,rfl,rfl,rfl,q,r,?_⟩;have v:=(br.1 p).1;have s:=(hp.1 a).1;unfold cB at c;simp only[cv,if_false]at c;have aI:b8 β H β (H.set b (.loop {L with st:=st,pending:=d})):=by
  have j:∀(x:Nat)(o:Obj),(H.set b (Obj.loop {L with st:=st,pending:=d}))[x]?=some o->(∀i,o≠Obj.loop i)->H[x]?=some o:=by
   intro x o m y
   by_cases hx:b=x
   ·subst hx;rw[ht s]at m;cases m;exact(y _ rfl).elim
   ·rwa [hF hx]at m
  refine⟨?_,?_,?_,?_,?_⟩
  ·rintro x _ ⟨f,t,h⟩;exact⟨⟨f,t,j _ _ h (by simp)⟩,rfl⟩
  ·rintro x _ ⟨f,t,h⟩;exact⟨⟨f,t,j _ _ h (by simp)⟩,rfl⟩
  ·rintro x _ ⟨z,h,l⟩;exact⟨⟨z,j _ _ h (fun i e=>by rw[e]at l;exact l.elim),l⟩,rfl⟩
  ·intro x al ai k u _ h;exact⟨k,u,j _ _ h (by simp),h4 _,Iff.rfl,fun _=>⟨rfl,rfl⟩⟩
  ·rintro x _ ⟨i,h⟩;refine⟨?_,rfl⟩
   by_cases hx:b=x
   ·subst hx;exact⟨L,a⟩
   ·rw[hF hx]at h;exact⟨i,h⟩
 have aj:∀x,aH H x->aH (H.set b (Obj.loop {L with st:=st,pending:=d})) x:=lA a (fun _ _=>trivial);have same:∀k,aa k->(w.putObj (β.ak b) (.loop {state:=st,pending:=d,fn,tmps,params:=L.params.toArray,assign:=L.assign,body:=L.body,defers})).heap[k]?=w.heap[k]?:=fun k hk=>hn (fun e=>c.1 (e▸hk));refine bU.set g s (fun _ _=>⟨rfl,rfl⟩) (fun _ x=>x) (fun _ x=>.inl x) (fun k hk=>by simpa using g.bR k hk) (by simp)
  (fun k hk _=>hn (hk.resolve_right (fun h=>h trivial))) (fun _=>.inr ⟨rfl,⟨_,a,trivial⟩,.inr c.1,c.2⟩) aI
  ⟨tmps,defers,fn,World.putObj_heap_same v,q,fun x=>ar.mono (fun _ x=>x) same aI _ _ (g.refs b _ a x) (r x),?_⟩ (fun x=>aB.mono aj _ (g.refs b _ a x)) (fun _ _ _ _=>trivial) (fun _ _=>⟨_,rfl⟩)
 unfold cB;simpa using c
end rf
theorem SN{s:St}{ah aa:Nat->Prop}{β:Bd}{t:Array c6}{w:da}(c:cL P n ah aa β s t w)(F:qg N fr β s.heap)(e:Array Tmp)(a b:Code)(p:List dl){f:Env}(g:∀x,aM f x=aM s.env x):
 ∃l mk i m j,(Instr.enterLoop fr.fn t e a b fr.roundOf).run P w=.ok (l,mk) i/\bQ P i aa j (s.heap++[.loop ⟨.ready,none,n,e.toList,a,b,f⟩]) m/\j.ak s.heap.length=l/\
  dI N ah aa w β s.heap m aa i j (s.heap++[.loop ⟨.ready,none,n,e.toList,a,b,f⟩])/\Marks fr ah w m aa i p (mk++p)/\
  b8 β s.heap j (s.heap++[.loop ⟨.ready,none,n,e.toList,a,b,f⟩]):=by
 cases v:fr.roundOf with
 |none=>
  have q:bU P ah aa w β s.heap aa (w.alloc (.deferred (some []))) β s.heap:=c.heap.later (fun _ x=>x) (fun _ x=>.inl x) (fun k hk=>by have:=c.heap.bR k hk;rw[ho];omega) (by rw[ho];omega) (fun k hk=>tZ w _ hk);have D:=q.rel.II (x:=w.heap.size) (by rw[ho];omega) (fun b o G hl g=>by have:=c.heap.mb G hl;omega);have d:=JM (L:=⟨.ready,none,n,e.toList,a,b,f⟩) (tmps:=t) (defers:=w.heap.size) (fn:=fr.fn) D c.size (fun x=>by rw[g];exact ar.mono (fun _ x=>x) (fun k hk=>tZ w _ (c.heap.bR k hk)) (b8.refl _ _) _ _ (c.gn x) (c.env x)) (fun x=>by rw[g];exact c.gn x);have C:dI N ah aa w β s.heap (fun k=>ah k\/k=w.heap.size) aa (w.alloc (.deferred (some []))) β s.heap:=⟨fun _ h=>.inl h,fun _ h=>h,fun _ h=>.inl h,q.ext,(b8.refl _ _).n,fun _ _ h=>h,fun _ _ h=>h⟩
  refine⟨_,_,_,_,_,run_enterLoop_outer fr.fn t e a b,d.rel,?_,C.trans d.eO,?_,d.step⟩
  ·simp[Bd.at,ho]
  ·refine⟨[w.heap.size],rfl,by simp,?_,fun k hk=>hk.imp id (fun h=>by simp[h]),by simp[v]⟩;intro r u;simp only[hT]at u;subst u;refine⟨h4 _,.inr rfl,fun hi=>by have:=c.heap.bR _ hi;omega,?_⟩;exact(d.ext.same _ (.inl (.inr rfl))).trans (World.alloc_heap_new w _)
 |some H=>
  obtain⟨y,K,A,B⟩:=F H v;obtain⟨I,E⟩:=A;obtain⟨M,z,J,g1,_⟩:=c.heap.cF y _ E;rw[B]at g1;have d:=JM (L:=⟨.ready,none,n,e.toList,a,b,f⟩) (tmps:=t) (defers:=z) (fn:=fr.fn) c.heap c.size (fun x=>by rw[g];exact c.env x) (fun x=>by rw[g];exact c.gn x);exact⟨_,_,_,_,_,run_enterLoop_inner g1 fr.fn t e a b,d.rel,by simp[Bd.at],d.eO,Marks.refl _ _ _ _ _ _,d.step⟩
theorem lZ(M:kZ P ag){fit:Nat->Array Oper->Bool}(K:rL P ag fit):∀(c:Code)(k:List Item){Q:bn->St->Prop}{s:St}{ah aa:Nat->Prop}{β:Bd}{t:Array c6}{w:da}{ds:List dl},
 codeOk fit n c=true->b6 P ag (n,N) c Q s->cL P n ah aa β s t w->qg N fr β s.heap->pC P n N fr k cs ah aa w β s.heap (lone (bA fr t ds (.code c::k)) cs w) ds Q
 | .skip,k,Q,s,ah,aa,β,t,w,ds,_,h,i,_=>.of h (.one aA1:mw P fr k cs _ t ds w .normal) i (dI.refl _ _ _ _ _ _)
 | .label l,k,Q,s,ah,aa,β,t,w,ds,_,h,i,_=>.of h (.one Uk:mw P fr k cs _ t ds w .normal) i (dI.refl _ _ _ _ _ _)
 | .exit id,k,Q,s,ah,aa,β,t,w,ds,_,h,i,_=>.of h (⟨k,rfl,hg _ _⟩:mw P fr k cs _ t ds w (.exit id)) i (dI.refl _ _ _ _ _ _)
 | .ret,k,Q,s,ah,aa,β,t,w,ds,_,h,i,_=>.of h (⟨k,hg _ _⟩:mw P fr k cs _ t ds w .ret) i (dI.refl _ _ _ _ _ _)
 | .region id ops draw,k,Q,s,ah,aa,β,t,w,ds,z,h,i,_=>by
  simp only[codeOk,cx,hX]at z;simp only[b6]at h;cases draw with
  |false=>
   simp only[cv,if_false]at h;obtain⟨s',aD,aJ,aA,w',j,r,q,d⟩:=HP (fr:=fr) (k:=k) (cs:=cs) (ds:=ds) (N:=N) M z.1 ops.toList 0 (by simp) h i;refine .of (e:=.normal) j ?_ q d;have e:List.range ops.size=hH 0 ops.toList.length:=by rw[List.range_eq_range'];simp
   exact(hd P1).trans ((by rw[e];exact r:ea P _ _).trans (.one Gb))
  |true=>
   simp only[if_true]at h;have a3:cL P n ah aa β s t {w with drawn:=w.drawn+1}:=cL.draw (w:=w) (w':={w with drawn:=w.drawn+1}) rfl i;obtain⟨s',aD,aJ,aA,w',j,r,q,d⟩:=K n N ops fr k cs ds (w.tape w.drawn (.order fr.fn id)) _ s ah aa β t _ (by simpa using z.2) z.1 h a3;exact .of (e:=.normal) j ((hd aAT).trans (r.trans (.one Gb)):mw P fr k cs _ aA ds w' .normal) q ⟨d.dT,d.bR,d.fresh,⟨d.ext.size,d.ext.same,d.ext.io⟩,d.step,d.eH,d.loop⟩
 | .seq a b,k,Q,s,ah,aa,β,t,w,ds,z,h,i,D=>by
  simp only[codeOk,cx]at z;simp only[b6]at h;obtain⟨e,s1,p,C,A,t1,o,E,j,r,q,d,B⟩:=lZ M K a (.code b::k) z.1 h i D;cases e with
  |normal=>exact .next d B ((hd Ca).trans r) (lZ M K b k z.2 j q (D.eO d))
  |exit id=>
   obtain⟨F,O,a2⟩:=r;exact⟨.exit id,s1,p,C,A,t1,o,E,j,⟨F,O.trans (by simp[exitTo]),(hd Ca).trans a2⟩,q,d,B⟩
  |ret=>
   obtain⟨F,a2⟩:=r;exact⟨.ret,s1,p,C,A,t1,o,E,j,⟨F,(hd Ca).trans a2⟩,q,d,B⟩
 | .cond c a b,k,Q,s,ah,aa,β,t,w,ds,z,h,i,D=>by
  simp only[codeOk,cx]at z;simp only[b6]at h
  split at h
  ·rename_i aC aL;have ao:=(ny i c).1;rw[aL]at ao;simp only[ar,aw]at ao;have aI:=aAS (P:=P) (fr:=fr) (ds:=ds) (k:=k) (cs:=cs) (w:=w) (x:=a) (y:=b) ao;cases aC with
   |true=>exact .next (dI.refl N ah aa w β s.heap) (Marks.refl _ _ _ _ _ _) (.one (by simpa using aI)) (lZ M K a k z.1 (by simpa using h) i D)
   |false=>exact .next (dI.refl N ah aa w β s.heap) (Marks.refl _ _ _ _ _ _) (.one (by simpa using aI)) (lZ M K b k z.2 (by simpa using h) i D)
  ·exact h.elim
 | .block id b,k,Q,s,ah,aa,β,t,w,ds,z,h,i,D=>by
  simp only[codeOk]at z;simp only[b6]at h;obtain⟨e,s1,p,C,A,t1,o,E,j,r,q,d,B⟩:=lZ M K b (.inBlock id::k) z h i D;cases e with
  |normal=>exact⟨.normal,s1,p,C,A,t1,o,E,j,(hd xn).trans (r.trans (.one SX)),q,d,B⟩
  |exit ad=>
   obtain⟨F,O,a2⟩:=r;dsimp only at j
   split at j
   ·rename_i hid;subst hid;refine⟨.normal,s1,p,C,A,t1,o,E,j,(hd xn).trans (a2.trans (.one (aAU ?_))),q,d,B⟩;rw[O];simp[exitTo]
   ·rename_i hid;exact⟨.exit ad,s1,p,C,A,t1,o,E,j,⟨F,O.trans (by simp[exitTo,Ne.symm hid]),(hd xn).trans a2⟩,q,d,B⟩
  |ret=>
   obtain⟨F,a2⟩:=r;exact⟨.ret,s1,p,C,A,t1,o,E,j,⟨F,(hd xn).trans a2⟩,q,d,B⟩
 | .scope b,k,Q,s,ah,aa,β,t,w,ds,z,h,i,D=>by
  simp only[codeOk]at z;simp only[b6]at h;obtain⟨e,s1,p,C,A,t1,o,E,j,r,q,d,B⟩:=lZ M K b (.inScope b::k) z h i D;cases e with
  |normal=>exact⟨.normal,s1,p,C,A,t1,o,E,j,(hd Ba).trans (r.trans (.one SW)),q,d,B⟩
  |exit ad=>
   obtain⟨F,O,a2⟩:=r;exact⟨.exit ad,s1,p,C,A,t1,o,E,j,⟨F,O.trans (by simp[exitTo]),(hd Ba).trans a2⟩,q,d,B⟩
  |ret=>
   obtain⟨F,a2⟩:=r;exact⟨.ret,s1,p,C,A,t1,o,E,j,⟨F,(hd Ba).trans a2⟩,q,d,B⟩
 | .loop b,k,Q,s,ah,aa,β,t,w,ds,z,h,i,D=>by
  simp only[codeOk]at z;simp only[b6]at h;obtain⟨I,⟨m0,t0,hf,hI⟩,a5⟩:=h
  have loop:∀(m:Nat)(u:St)(ah aa:Nat->Prop)(β:Bd)(t:Array c6)(w:da)(ds:List dl),I m u->cL P n ah aa β u t w->qg N fr β u.heap->
   pC P n N fr k cs ah aa w β u.heap (lone (bA fr t ds (.code b::.inLoop b::k)) cs w) ds Q:=by
   intro m
   induction m using Nat.strongRecOn with
   |_ m a8=>
    intro u ah aa β t w ds hI i D;obtain⟨e,s1,p,C,A,t1,o,E,j,r,q,d,B⟩:=lZ M K b (.inLoop b::k) z (a5 m u hI) i D;cases e with
    |normal=>
     obtain⟨a9,u',a0,au,aE⟩:=j;have ac:=au.eO (β:=A) (ah:=p) (aa:=C) (w:=o);exact .next (d.trans ac) B (he r (.one Tk)) (a8 a9 a0 u' p C A t1 o E aE (au.rel q) ((D.eO d).eO ac))
    |exit ad=>
     obtain⟨F,O,a2⟩:=r;exact⟨.exit ad,s1,p,C,A,t1,o,E,j,⟨F,O.trans (by simp[exitTo]),a2⟩,q,d,B⟩
    |ret=>
     obtain⟨F,a2⟩:=r;exact⟨.ret,s1,p,C,A,t1,o,E,j,⟨F,a2⟩,q,d,B⟩
  have ac:=hf.eO (β:=β) (ah:=ah) (aa:=aa) (w:=w);exact .next ac (Marks.refl _ _ _ _ _ _) (.one aAV) (loop m0 t0 ah aa β t w ds hI (hf.rel i) (D.eO ac))
 | .rangeFunc f G a b,k,Q,s,ah,aa,β,t,w,ds,z,h,i,D=>by
  simp only[b6]at h;obtain⟨be,R,aV,h⟩:=h;have Y:=ny i f
  obtain⟨g,fi,ca,J,H,aX,aW,aO,ax,av,ab,v,aY,af⟩:∃g fi ca,∃J H:List c6,fj t f= .func (.func g) J.toArray H.toArray/\bt P w aa β s.heap fi J/\bt P w aa β s.heap ca H/\aP (aH s.heap) fi/\aP (aH s.heap) ca/\
   ∃ab v,cR P g (s.heap++[.loop ⟨.ready,none,n,G.toList,a,b,R⟩]) (fi++[.map s.heap.length]++ca) ab v/\iE s.heap.length s.env Q ab:=by
   unfold jw at h
   split at h
   ·rename_i g fi ca hf;rw[hf]at Y;simp only[ar,aw]at Y;obtain⟨⟨J,H,j,r,q⟩,_⟩:=Y;exact⟨g,_,_,J,H,q,jh.2 j,jh.2 r,iM _ _,iM _ _,h⟩
   ·rename_i g fi ca hf;rw[hf]at Y;simp only[ar,aB]at Y;obtain⟨⟨J,H,j,r,q⟩,d,B⟩:=Y;exact⟨g,fi,ca,J,H,q,j,r,d,B,h⟩
   ·exact h.elim
  obtain⟨l,mk,o,p,A,e1,e2,e3,e4,e5,ai⟩:=SN (fr:=fr) i D G a b ds aV;obtain⟨aT,aQ⟩:=aY;have aj:∀x,aH s.heap x->aH (s.heap++[.loop ⟨.ready,none,n,G.toList,a,b,R⟩]) x:=fun x hx=>Is hx;have an:∀k,aa k->o.heap[k]?=w.heap[k]?:=fun k hk=>e4.ext.same k (.inr hk);have a6:ar P o aa A (s.heap++[.loop ⟨.ready,none,n,G.toList,a,b,R⟩]) (.map s.heap.length) (.func (.yield l) #[] #[]):=by
   simp only[ar,bI,bO];refine⟨by simp[hh],fun W=>?_,fun _=>by rw[e3]⟩;obtain⟨bg,ap,W⟩:=W;simp at ap;subst ap;exact W.elim
  have a7:aB (aH (s.heap++[.loop ⟨.ready,none,n,G.toList,a,b,R⟩])) (.map s.heap.length):=by
   simp only[aB];exact⟨.loop ⟨.ready,none,n,G.toList,a,b,R⟩,by simp,trivial⟩
  have aK:=n7 (n7 (bt.mono (fun _ x=>x) an ai _ _ ax aW) (b:=[.map s.heap.length]) (y:=[.func (.yield l) #[] #[]]) (by simp only[bt];exact⟨_,_,rfl,a6,rfl⟩)) (bt.mono (fun _ x=>x) an ai _ _ av aO);have aG:=jr (jr (aP.mono aj _ ax) (b:=[.map s.heap.length]) (by simp only[aP];exact⟨a7,trivial⟩)) (aP.mono aj _ av);have aZ:(invoke (.fn (.func g) H.toArray) (J.toArray++#[.func (.yield l) #[] #[]])).run P o=.ok (.enter g (J++[(.func (.yield l) #[] #[]:c6)]++H).toArray) o:=by
   have:=aT (J++[(.func (.yield l) #[] #[]:c6)]++H).toArray o;simp only[invoke];rw[<-this];congr 2;simp
  have a4:(resolve (Act.eval ⟨t,ds⟩) (rangeCall f l) 0).run P o=.ok (⟨.fn (.func g) H.toArray,J.toArray++#[.func (.yield l) #[] #[]]⟩:dl) o:=by
   have al:(Act.eval ⟨t,ds⟩) f=fj t f:=by cases f<;>rfl
   have aR:(rangeCall f l).args.map (Act.eval ⟨t,ds⟩)=#[.func (.yield l) #[] #[]]:=by simp[Act.eval]
   simp only[resolve,aR];simp only[al,aX,Deferred.ofValue];rfl
  have aU:=stepR_rangeFunc (P:=P) (b:=fr) (a:=⟨t,ds⟩) (k:=k) (cs:=cs) (w:=w) (g:=f) (ps:=G) (assign:=a) (body:=b) e1 a4 aZ;obtain⟨e,ae,bd,⟨bc,X,U,al,g1,g2,g3⟩,aI,bf,a1⟩:=aQ o aa p A _ e2 aK aG (fr.atR ⟨t,mk++ds⟩ (.inRangeFunc l::k)::cs);subst al;unfold iE at af
  split at af
  case h_2=>exact af.elim
  rename_i L aq;obtain⟨aN,Z⟩:=af;obtain⟨rec,ay,ba,bb,bh,bi,bj,bk,bl,az⟩:=Bo g1.rel aq .exhausted L.pending;have aF:aH (s.heap++[.loop ⟨.ready,none,n,G.toList,a,b,R⟩]) (s.heap.length,0):=⟨.loop ⟨.ready,none,n,G.toList,a,b,R⟩,by simp,trivial⟩
  have aM:X.ak s.heap.length=l:=((g1.step.loop _ aF ⟨_,aq⟩).2).trans e3;rw[aM]at ay az;have aS:=run_endLoop (P:=P) ay (by rw[ba];exact aN);have S:ea P (lone (bA fr t ds (.code (.rangeFunc f G a b)::k)) cs w) (lone (bA fr t (mk++ds) ((rec.pending.map Item.code).toList++k)) cs (ae.putObj l (.loop {rec with state:=.exhausted}))):=by
   refine(hd aU).trans (he aI ?_);refine(hd (step_leave_returned a1)).trans ?_;rw[finish_atR_inRangeFunc];exact .one (stepR_endRangeFunc aS)
  have S:ea P (lone (bA fr t ds (.code (.rangeFunc f G a b)::k)) cs w) (lone (bA fr t (mk++ds) ((L.pending.map Item.code).toList++k)) cs (ae.putObj l (.loop {rec with state:=.exhausted,pending:=L.pending}))):=by
   rw[<-bb];exact S
  have V:bU P p aa o A (s.heap++[.loop ⟨.ready,none,n,G.toList,a,b,R⟩]) U _ X _:=g1.trans az;have am:cL P n p U X ⟨s.env,ab.set s.heap.length (.loop {L with st:=.exhausted})⟩ t (ae.putObj l (.loop {rec with state:=.exhausted,pending:=L.pending})):=by
   refine⟨V.rel,fun x=>?_,fun x=>?_,i.size⟩
   ·exact ar.mono V.bR (fun k hk=>V.ext.same k (.inr hk)) V.step _ _ (aB.mono aj _ (i.gn x)) (ar.mono (fun _ x=>x) an ai _ _ (i.gn x) (i.env x))
   ·exact aB.mono V.eH _ (aB.mono aj _ (i.gn x))
  have ak:dI N ah aa w β s.heap p U (ae.putObj l (.loop {rec with state:=.exhausted,pending:=L.pending})) X (ab.set s.heap.length (.loop {L with st:=.exhausted})):=e4.trans V.eO;have W:Marks fr ah w p U (ae.putObj l (.loop {rec with state:=.exhausted,pending:=L.pending})) ds (mk++ds):=e5.trans e4 (Marks.refl _ _ _ _ _ _) V.eO;unfold jP at Z
  split at Z
  ·rename_i T;rw[T]at S;exact⟨.normal,_,p,U,X,t,_,mk++ds,Z,by rw[T];exact S,am,ak,W⟩
  ·rename_i id T;rw[T]at S;exact⟨.exit id,_,p,U,X,t,_,mk++ds,Z,⟨k,rfl,by rw[T];exact S⟩,am,ak,W⟩
  ·rename_i T;rw[T]at S;exact⟨.ret,_,p,U,X,t,_,mk++ds,Z,⟨k,by rw[T];exact S⟩,am,ak,W⟩
  ·exact Z.elim
 | .goto _,_,_,_,_,_,_,_,_,_,_,h,_,_| .refuse _,_,_,_,_,_,_,_,_,_,_,h,_,_=>by simp[b6]at h
end
end Go.au
namespace Go.au
variable[Gl]
def iq(i:Nat):List AV->Env
 |[]=>[]
 |v::r=>(i,v)::iq (i+1) r
def oN(P:dk)(s:St):dz->Option AV
 | .tmp t=>some (aM s.env t)
 | .cell a T=>match aM s.env a with
  | .ptr b path=>match s.heap[b]? with
   |some (.box _ t)=>match eB t path with
    |some v=>if kindOf P T=ad v then some v else none
    |none=>none
   |_=>none
  |_=>none
def fo(P:dk)(s:St):List dz->Option (List AV)
 |[]=>some []
 |r::rs=>match oN P s r,fo P s rs with
  |some v,some vs=>some (v::vs)
  |_,_=>none
def oneOf:List AV->AV
 |[v]=>v
 |vs=>match eA vs with
  |some l=>.p (.aC l)
  |none=>.aC vs
def jz(f:AV->Option PV):List AV->Option (List PV)
 |[]=>some []
 |v::vs=>match f v,jz f vs with
  |some p,some a=>some (p::a)
  |_,_=>none
def dZ(H:Heap):Nat->AV->Option PV
 |0,.p v=>some v
 |0,_=>none
 |n+1,x=>match x with
  | .p v=>some v
  | .sl b al ai off len=>match H[b]? with
   |some (.arr k e c es)=>
    if al=e/\ai=c/\off+len<=es.length then
     if k.gr=true/\es=[]then some .aG else
     match jz (dZ H n) ((es.drop off).take len)with
     |some d=>some (.bw (k== .exact&&off+len==es.length) d)
     |none=>none
    else none
   |_=>none
  | .ptr b path=>match H[b]? with
   |some (.box _ t)=>match eB t path with
    |some s=>match dZ H n s with
     |some p=>some (.cz p)
     |none=>none
    |none=>none
   |_=>none
  | .map b=>match H[b]? with
   |some (.map _ es)=>some (.eE es)
   |_=>none
  | .func f fi ca=>match jz (dZ H n) fi,jz (dZ H n) ca with
   |some a,some b=>some (.func f a b)
   |_,_=>none
  | .st u fs=>match jz (dZ H n) fs with
   |some l=>some (.st u l)
   |none=>none
  | .aC vs=>match jz (dZ H n) vs with
   |some l=>some (.aC l)
   |none=>none
  | .bX _ _ _ _ _=>none
section
variable{P:dk}{w:da}{aa ah:Nat->Prop}{β:Bd}{H:Heap}
def Cv(aa:Nat->Prop)(β:Bd)(H:Heap)(k:Nat):Prop:=aa k\/∃(b:Nat)(o:Obj),H[b]?=some o/\o.live/\β.ak b=k
theorem IH:∀{n:Nat}{v:AV}{p:PV},dZ H n v=some p->(ad v=aL p)
 |0,v,p,h=>by
  cases v<;>simp[dZ]at h;subst h;rfl
 |n+1,v,p,h=>by
  cases v<;>simp only[dZ]at h
  case p v=>simp at h;subst h;rfl
  case bX=>simp at h
  case sl b al ai off len=>
   split at h
   ·split at h
    ·split at h
     ·simp at h;subst h;rfl
     ·split at h
      ·simp at h;subst h;rfl
      ·simp at h
    ·simp at h
   ·simp at h
  case ptr b path=>
   split at h
   ·split at h
    ·split at h
     ·simp at h;subst h;rfl
     ·simp at h
    ·simp at h
   ·simp at h
  all_goals
   split at h
   ·simp at h;subst h;rfl
   ·simp at h
theorem Hh{v:AV}{p:PV}{cs:List c6}(hs:ad v=aL p)(hc:bf P w aa β H v cs){I:Nat->Prop}(h:∀x,ar P w aa β H v x->aw P w I p x):aV P w I p cs:=by
 cases a:ad v with
 |bad=>exact((ng hc).2 a).elim
 |leaf=>
  obtain⟨c,rfl,b⟩:=(Bi a cs).1 hc;exact(rR (hs▸a) _).2 ⟨c,rfl,h _ b⟩
 |agg u=>exact(uJ (hs▸a) cs).2 (h _ ((Lg a cs).1 hc))
section lists
variable{f:AV->Option PV}{I:Nat->Prop}(hf:∀v p,f v=some p->ad v=aL p/\(aB (aH H) v->∀x,ar P w aa β H v x->aw P w I p x))
include hf
theorem w8:∀{vs:List AV}{a:List PV},jz f vs=some a->aP (aH H) vs->∀b,bt P w aa β H vs b->bg P w I a b
 |[],a,h,_,b,hx=>by
  simp[jz]at h;subst h;simpa[bt,bg]using hx
 |v::vs,a,h,c,b,hx=>by
  simp only[jz]at h
  split at h
  case h_2=>simp at h
  rename_i q qs hq d;simp at h;subst h;simp only[aP]at c;simp only[bt]at hx;obtain⟨y,e,rfl,k1,k2⟩:=hx;simp only[bg];exact⟨y,e,rfl,(hf _ _ hq).2 c.1 _ k1,w8 d c.2 _ k2⟩
theorem Ap:∀{vs:List AV}{b:List PV},jz f vs=some b->aP (aH H) vs->∀l a,bH P w aa β H l vs a->bc P w I l b a
 |[],b,h,_,l,a,hx=>by
  simp[jz]at h;subst h;cases l<;>simp_all [bH,bc]
 |v::vs,b,h,d,l,a,hx=>by
  simp only[jz]at h
  split at h
  case h_2=>simp at h
  rename_i q qs hq e;simp at h;subst h;simp only[aP]at d;cases l with
  |nil=>simp[bH]at hx
  |cons m l=>
   simp only[bH]at hx;obtain⟨c,cs,rfl,k1,k2,k3⟩:=hx;simp only[bc];exact⟨c,cs,rfl,Hh (hf _ _ hq).1 k1 ((hf _ _ hq).2 d.1),k2,Ap e d.2 _ _ k3⟩
end lists
theorem wL(e:bQ P w aa β H ah):∀(n:Nat)(v:AV)(p:PV),dZ H n v=some p->aB (aH H) v->∀x,ar P w aa β H v x->aw P w (Cv aa β H) p x
 |0,v,p,h,_,x,hx=>by
  cases v<;>simp[dZ]at h;subst h;simp only[ar]at hx;exact aw.mono (fun _=>.inl) (fun _ _=>rfl) _ _ hx
 |n+1,v,p,h,g,x,hx=>by
  have hf:∀v p,dZ H n v=some p->ad v=aL p/\(aB (aH H) v->∀x,ar P w aa β H v x->aw P w (Cv aa β H) p x):=fun v p h=>⟨IH h,wL e n v p h⟩
  cases v<;>simp only[dZ]at h
  case p v=>
   simp at h;subst h;simp only[ar]at hx;exact aw.mono (fun _=>.inl) (fun _ _=>rfl) _ _ hx
  case bX=>simp at h
  case sl b al ai off len=>
   split at h
   case h_2=>simp at h
   rename_i k ac X y d
   split at h
   case isFalse=>simp at h
   rename_i K;obtain⟨rfl,rfl,hl⟩:=K;simp only[ar]at hx;obtain⟨_,hx⟩:=hx;simp only[bO]at hx;obtain⟨v1,v2,v3⟩:=hx k y d
   split at h
   ·rename_i r;simp at h;subst h;simp[aw,v2 r]
   ·rename_i r
    split at h
    case h_2=>simp at h
    rename_i V N;simp at h;subst h;rw[v3 r];rcases e.cF b _ d with hold|⟨cs,T,B,rest,i,j,A,F,Y,G,Z,ab⟩
    ·exact(r hold).elim
    obtain⟨a,m,c,e1,e2,e3,e4,e5⟩:=jt j off len v1;have Q:aP (aH H) ((y.drop off).take len):=by
     have:=e.refs b _ d;rw[b9];intro v R;exact b9.1 this v (hQ (hP R))
    have L:((y.drop off).take len).length=len:=by simp;omega
    have k1:=Ap hf N Q _ _ e2;have z:V.length=len:=by have:=(tQ k1).2.1;simp at this;omega
    simp only[aw];refine⟨β.ak b,off*ai,β.cap b-off,ai,m,by rw[z,<-L];exact k1,fun _=>.inr ⟨b,_,d,r,rfl⟩,?_,?_,?_,none,.inl rfl,?_⟩
    ·rw[<-e3];exact lg i (post:=c.flatten++rest) (by rw[A,e1];simp)
    ·intro hf;simp at hf;rw[z,G hf.1];omega
    ·rw[z];omega
    ·rw[z]
  case ptr b path=>
   split at h
   case h_2=>simp at h
   rename_i fz t d
   split at h
   case h_2=>simp at h
   rename_i s hs
   split at h
   case h_2=>simp at h
   rename_i q hq;simp at h;subst h;simp only[ar]at hx;obtain⟨_,hx⟩:=hx;simp only[bO]at hx;obtain⟨W,U,o,rfl,M,hx⟩:=hx;obtain⟨rfl,rfl⟩:=hx (.inl ⟨fz,_,d⟩);obtain⟨cs,T,i,j,A,F⟩:=e.cF b _ d;obtain⟨pre,xs,post,e1,e2,e3,_⟩:=oC j hs M;have O:aB (aH H) s:=ui hs (e.refs b _ d);simp only[aw];refine⟨β.ak b,U,xs,Hh (IH hq) e3 (wL e n _ _ hq O),.inr ⟨b,_,d,trivial,rfl⟩,?_,rfl⟩;rw[<-e2];exact lg i e1
  case map b=>
   split at h
   case h_2=>simp at h
   rename_i fz y d;simp at h;subst h;simp only[ar]at hx;obtain⟨_,hx⟩:=hx;simp only[bO]at hx;have hx:=hx.1 ⟨_,d,trivial⟩;obtain⟨D,clock,i,j,A⟩:=e.cF b _ d;simp only[aw];exact⟨β.ak b,D,clock,.inr ⟨b,_,d,trivial,rfl⟩,i,cC.mono (fun _=>.inl) (fun _ _=>rfl) _ _ j,hx⟩
  case func f a b=>
   split at h
   case h_2=>simp at h
   rename_i a' b' I J;simp at h;subst h;simp only[aB]at g;simp only[ar]at hx;obtain⟨E,C,k1,k2,k3⟩:=hx;simp only[aw];exact⟨E,C,w8 hf I g.1 _ k1,w8 hf J g.2 _ k2,k3⟩
  case st u fs=>
   split at h
   case h_2=>simp at h
   rename_i l hl;simp at h;subst h;simp only[aB]at g;simp only[ar]at hx;obtain⟨S,B,k1,k2,k3⟩:=hx;simp only[aw];exact⟨S,B,k1,Ap hf hl g _ _ k2,k3⟩
  case aC vs=>
   split at h
   case h_2=>simp at h
   rename_i l hl;simp at h;subst h;simp only[aB]at g;simp only[ar]at hx;obtain⟨xs,k1,k2⟩:=hx;simp only[aw];exact⟨xs,w8 hf hl g _ k1,k2⟩
end
section
variable{P:dk}{ag:ec->Bool}{fit:Nat->Array Oper->Bool}
theorem Am:∀(args:List AV)(i x:Nat),aM (iq i args) x=if i<=x then(args[x-i]?).getD (.p .undef)else .p .undef
 |[],i,x=>by simp[iq,aM]
 |v::r,i,x=>by
  simp only[iq,aM,Am r]
  by_cases h:x=i
  ·subst h;simp
  ·by_cases b:i<=x
   ·have a:i+1<=x:=by omega
    simp only[h,b,a,if_true,if_false];rw[show x-i=(x-(i+1))+1 by omega,hO]
   ·have a:¬i+1<=x:=by omega
    simp[h,b,a]
theorem rS{w:da}{aa:Nat->Prop}{β:Bd}{H:Heap}:∀{vs:List AV}{xs:List c6},bt P w aa β H vs xs->xs.length=vs.length/\∀i:Nat,ar P w aa β H ((vs[i]?).getD (.p .undef)) ((xs[i]?).getD undef)
 |[],xs,h=>by simp only[bt]at h;subst h;simp[ar,aw]
 |v::vs,xs,h=>by
  simp only[bt]at h;obtain⟨y,c,rfl,a,b⟩:=h;have:=rS b;refine⟨by simp[this.1],fun i=>?_⟩;cases i with
  |zero=>simpa using a
  |succ i=>simpa using this.2 i
theorem Tj{ah aa:Nat->Prop}{β:Bd}{w:da}{H:Heap}{args:List AV}{a:List c6}{n:Nat}(f:bQ P w aa β H ah)(d:bt P w aa β H args a)(g:aP (aH H) args)(i:args.length<=n):
 cL P n ah aa β ⟨iq 0 args,H⟩ (a.toArray++bo (n-a.length) undef) w:=by
 obtain⟨b,c⟩:=rS d;refine⟨f,fun x=>?_,fun x=>?_,by simp[b];omega⟩
 ·have e:(a.toArray++bo (n-a.length) undef).getD x undef=(a[x]?).getD undef:=by
   rw[b2,<-b5];simp only[Array.toList_append,Array.toList_replicate]
   by_cases hx:x<a.length
   ·rw[List.getElem?_append_left (by simpa using hx)]
   ·rw[List.getElem?_append_right (by simpa using hx)];simp only[hA];rw[List.getElem?_eq_none (by simpa using hx)]
    split<;>rfl
  rw[e,Am];simpa using c x
 ·rw[Am];simp only[Nat.zero_le,if_true,Nat.sub_zero];cases h:args[x]? with
  |none=>simp[aB]
  |some v=>exact b9.1 g v (hE h)
theorem Gs{w:da}{aa:Nat->Prop}{β:Bd}{H:Heap}{T:db}{v:AV}{ak off:Nat}{a:List c6}(hk:kindOf P T=ad v)(f:bf P w aa β H v a)(hc:gB w ak off a):
 ∃g,(loadVar T ⟨ak,off,none⟩).run P w=.ok g w/\ar P w aa β H v g:=by
 obtain⟨hl,n⟩:=ng f;have m:∀j,(⟨ak,off,none⟩:Addr).add j=⟨ak,off+j,none⟩:=by intro j;unfold Addr.add;split<;>simp_all
 unfold kindOf at hk;cases hs:ad v with
 |bad=>exact(n hs).elim
 |leaf=>
  rw[hs]at hk;obtain⟨c,rfl,e⟩:=(Bi hs a).1 f;refine⟨c,?_,e⟩;have h:=hc 0 (by simp);simp only[h7,List.getElem_cons_zero]at h;have b:(isAgg T).run P w=.ok false w:=by
   cases hu:P.underlying T with
   |none=>simp[hu]at hk
   |some d=>
    cases d<;>simp only[hu]at hk<;>first
     |(simp[isAgg,cy hu];done)
     |(split at hk<;>simp at hk)
  simp[loadVar,b,h]
 |agg u=>
  rw[hs]at hk;have e:=(Lg hs a).1 f;refine⟨.agg a.toArray,?_,e⟩;have b:(isAgg T).run P w=.ok true w/\P.cellsOf T=a.length:=by
   rw[hl,hs];cases hu:P.underlying T with
   |none=>simp[hu]at hk
   |some d=>
    cases d<;>simp only[hu]at hk<;>first
     |(split at hk
       ·rename_i hc;simp at hk;subst hk;simp at hc;refine⟨by simp[isAgg,cy hu],hc.2⟩
       ·simp at hk)
     |(split at hk<;>simp at hk)
  obtain⟨i,hi⟩:∃i,P.info? T=some i:=by
   cases hi:P.info? T with
   |none=>
    have l:=b.1;simp[isAgg,underlying,gx,hi]at l
   |some i=>exact⟨i,rfl⟩
  have p:(sizeOf T).run P w=.ok a.length w:=by
   rw[<-b.2];simp[sizeOf,typeInfo,hi,gt]
  have o:=run_loadCells_list (P:=P) w ⟨ak,off,none⟩ a (fun j x hx=>by
   rw[m];have k:j<a.length:=(hp.1 hx).1;rw[hc j k];rw[hy k]at hx;exact hx)
  simp[loadVar,b.1,p,o]
theorem S5{n:Nat}{ah aa:Nat->Prop}{β:Bd}{s:St}{t:Array c6}{w:da}(h:cL P n ah aa β s t w){g:dz}{v:AV}(c:oN P s g=some v):
 ∃e,(match g with
  | .tmp x=>(pure (t.getD x undef):Sem c6)
  | .cell a T=>do loadVar T (<-asAddr (t.getD a undef))).run P w=.ok e w/\ar P w aa β s.heap v e/\aB (aH s.heap) v:=by
 cases g with
 |tmp x=>
  simp[oN]at c;subst c;exact⟨_,rfl,h.env x,h.gn x⟩
 |cell a T=>
  simp only[oN]at c;have d:=h.env a
  split at c
  case h_2=>simp at c
  rename_i b B k;rw[k]at d
  split at c
  case h_2=>simp at c
  rename_i fz r f
  split at c
  case h_2=>simp at c
  rename_i v' hs
  split at c
  case isFalse=>simp at c
  rename_i hc;simp at c;subst c;simp only[ar]at d;obtain⟨_,d⟩:=d;simp only[bO]at d;obtain⟨y,q,o,p,m,d⟩:=d;obtain⟨rfl,rfl⟩:=d (.inl ⟨fz,r,f⟩);obtain⟨cs,u,i,j,z,A⟩:=h.heap.cF b _ f;obtain⟨pre,xs,post,e1,e2,e3,_⟩:=oC j hs m;have l:gB w (β.ak b) q xs:=by rw[<-e2];exact lg i e1
  obtain⟨e,k1,k2⟩:=Gs hc e3 l;refine⟨e,?_,k2,ui hs (h.heap.refs b _ f)⟩;simp only[p,asAddr];simp[k1]
theorem Gv{n:Nat}{ah aa:Nat->Prop}{β:Bd}{s:St}{t:Array c6}{w:da}(h:cL P n ah aa β s t w):∀{d:List dz}{vs:List AV},fo P s d=some vs->
 ∃c:List c6,(d.mapM (fun i:dz=>match i with
  | .tmp x=>(pure (t.getD x undef):Sem c6)
  | .cell a T=>do loadVar T (<-asAddr (t.getD a undef)))).run P w=.ok c w/\bt P w aa β s.heap vs c/\aP (aH s.heap) vs
 |[],vs,b=>by
  simp[fo]at b;subst b;exact⟨[],by simp,by simp[bt],by simp[aP]⟩
 |r::d,vs,b=>by
  simp only[fo]at b
  split at b
  case h_2=>simp at b
  rename_i v j f g;simp at b;subst b;obtain⟨e,k1,k2,k3⟩:=S5 h f;obtain⟨c,g1,g2,g3⟩:=Gv h g;refine⟨e::c,?_,by simp only[bt];exact⟨e,c,rfl,k2,g2⟩,by simp only[aP];exact⟨k3,g3⟩⟩;simp only[h0,g8,k1,g7,g1];rfl
theorem HR{w:da}{aa:Nat->Prop}{β:Bd}{H:Heap}{vs:List AV}{a:List c6}(h:bt P w aa β H vs a)(b:aP (aH H) vs):
 ar P w aa β H (oneOf vs) (if h:a.toArray.size=1 then a.toArray[0]else .tuple a.toArray)/\aB (aH H) (oneOf vs):=by
 have hl:=(rS h).1
 match vs,a,h with
 |[v],[c],h=>
  simp only[bt]at h;obtain⟨y,i,f,d,g⟩:=h;cases f;simp only[aP]at b;exact⟨by simpa[oneOf]using d,by simpa[oneOf]using b.1⟩
 |[],[],h=>exact⟨by simp[oneOf,eA,ar,aw,bg],by simp[oneOf,eA,aB]⟩
 |v1::v2::vs,c1::c2::a,h=>
  have hs:¬(c1::c2::a).toArray.size=1:=by simp
  rw[dif_neg hs];simp only[oneOf];cases e:eA (v1::v2::vs)with
  |none=>exact⟨by simp only[ar];exact⟨_,h,rfl⟩,by simpa only[aB]using b⟩
  |some l=>
   have:=lx e;rw[this]at h;exact⟨by simp only[ar,aw];exact⟨_,jh.1 h,rfl⟩,by simp[aB]⟩
 |[],_::_,_=>simp at hl
 |[_],[],_=>simp at hl
 |[_],_::_::_,_=>simp at hl
 |_::_::_,[],_=>simp at hl
 |_::_::_,[_],_=>simp at hl
theorem takes{fr:dq}{cs:List dq}(c:fr.mode= .returning):∀(a:List Nat)(w:da),a.Nodup->(∀r∈a,w.heap[r]?=some (.deferred (some [])))->
 ∃w',ea P (lone {fr with defers:=a.map mark} cs w) (lone {fr with defers:=[]} cs w')/\w'.heap.size=w.heap.size/\(∀k,k∉a->w'.heap[k]?=w.heap[k]?)/\(w'.os=w.os/\w'.output=w.output)
 |[],w,_,_=>⟨w,hg _ _,rfl,fun _ _=>rfl,rfl,rfl⟩
 |r::a,w,b,h=>by
  rw[List.nodup_cons]at b;have f:=h r (by simp);have hk:=run_takeDeferred (P:=P) f;have m:=(br.1 f).1;obtain⟨w',g,i,j,l⟩:=takes c a (w.putObj r (.deferred none)) b.2 (fun x hx=>(hn (fun(e:x=r)=>b.1 (e▸hx))).trans (h x (by simp[hx])));refine⟨w',(hd (step_collected (fr:={fr with defers:=(r::a).map mark}) (d:=mark r) (ds:=a.map mark) (by simp[c]) rfl rfl hk)).trans g,by simpa using i,fun k hk=>?_,l⟩;simp only[List.mem_cons,not_or]at hk;exact(j k hk.2).trans (hn hk.1)
theorem GO{N:Nat}{f:ec}{fn:Func}{c:Code}(A:kZ P ag)(z:rL P ag fit)(hf:P.funcs[f]?=some fn)(G:fn.body=some c)(M:codeOk fit fn.ntmps c=true)
 {args:List AV}{H:Heap}{R:List AV->St->Prop}(K:args.length<=fn.ntmps)
 (T:b6 P ag (fn.ntmps,N) c (fun e s=>(match e with
  | .exit _=>False
  |_=>True)/\∃vs,fo P s fn.results.toList=some vs/\R vs s) ⟨iq 0 args,H⟩)
 {w:da}{aa ah:Nat->Prop}{β:Bd}{d:List c6}(i:bQ P w aa β H ah)(u:bt P w aa β H args d)(O:aP (aH H) args):
 Calls P f d.toArray w fun e w'=>∃vs s a aD aJ t,e=.returned (if h:a.toArray.size=1 then a.toArray[0]else .tuple a.toArray)/\R vs s/\cL P fn.ntmps ah aD aJ s t w'/\dI N ah aa w β H ah aD w' aJ s.heap/\
  bt P w' aD aJ s.heap vs a/\aP (aH s.heap) vs:=by
 intro cs;have X:=(rS u).1;obtain⟨g,j⟩:∃g:dq,g={fn:=f,tmps:=#[],todo:=[],defers:=[],mode:=.run,kind:=.normal}:=⟨_,rfl⟩
 have I:Frame.enter P f d.toArray .normal=bA g (d.toArray++bo (fn.ntmps-d.length) undef) [] [.code c]:=by
  subst j;simp[Frame.enter,bA,hf,G]
 obtain⟨e,s,V,aD,aJ,t,p,W,⟨B,vs,C,D⟩,o,m,b,E⟩:=lZ (fr:=g) (cs:=cs) (ds:=[]) A z c [] M T (Tj i u O K) (fun l hl=>by subst j;cases hl);obtain⟨rs,v,L,n,Y,_⟩:=E;rw[hZ]at v;subst v;rw[I]
 have q:∀todo,ea P (lone (bA g (d.toArray++bo (fn.ntmps-d.length) undef) [] [.code c]) cs w) (lone {bA g t (rs.map mark) todo with mode:= .returning} cs p)->
  ∃e w' fr,(∃vs s a aD aJ t,e=.returned (if h:a.toArray.size=1 then a.toArray[0]else .tuple a.toArray)/\R vs s/\cL P fn.ntmps ah aD aJ s t w'/\dI N ah aa w β H ah aD w' aJ s.heap/\
   bt P w' aD aJ s.heap vs a/\aP (aH s.heap) vs)/\Comes P (lone (bA g (d.toArray++bo (fn.ntmps-d.length) undef) [] [.code c]) cs w) (lone fr cs w') e/\fr.fn=f/\fr.leaving P w' e:=by
  intro todo aI;obtain⟨w',t1,t2,t3,t4⟩:=takes (P:=P) (fr:={bA g t (rs.map mark) todo with mode:=.returning}) (cs:=cs) rfl rs p L (fun r i=>(n r i).2.2.2);have S:∀k,aD k->w'.heap[k]?=p.heap[k]?:=fun k hk=>t3 k (fun i=>(n k i).2.2.1 hk);have y:cL P fn.ntmps ah aD aJ s t w':=⟨m.heap.shut b.dT (R:=fun k=>k∈rs) (fun x hx=>⟨(n x hx).2.1,(n x hx).2.2.1⟩) t2 t3,fun x=>ar.mono (fun _ x=>x) S (b8.refl _ _) _ _ (m.gn x) (m.env x),m.gn,m.size⟩
  have F:dI N ah aa w β H ah aD w' aJ s.heap:=⟨fun _ x=>x,b.bR,b.fresh,⟨by rw[t2];exact b.ext.size,fun k hk=>(t3 k (fun J=>by
   have:=(n k J).1;have:=hk.elim (i.dT k) (i.bR k);omega)).trans (b.ext.same k hk),t4.1.trans b.ext.io.1,t4.2.trans b.ext.io.2⟩,b.step,b.eH,b.loop⟩
  obtain⟨a,g1,g2,g3⟩:=Gv y C;have Q:(results fn t).run P w'=.ok (if h:a.toArray.size=1 then a.toArray[0]else .tuple a.toArray) w':=by
   simp only[results];rw[b3];rw[g8,ha]
   erw [g1]
   rfl
  refine⟨_,w',{bA g t [] todo with mode:=.returning},⟨vs,s,a,aD,aJ,t,rfl,D,y,F,g2,g3⟩,he aI t1,by subst j;rfl,?_⟩;subst j;exact⟨rfl,rfl,rfl,fn,hf,Q⟩
 cases e with
 |exit id=>exact B.elim
 |normal=>
  exact q [] (he o (.one (en (by subst j;simp[stepG,stepG.exec,bA]))))
 |ret=>
  obtain⟨U,o⟩:=o;exact q (.code .ret::U) (he o (.one (en (by subst j;simp[stepG,stepG.exec,bA]))))
theorem Jm{f:ec}{fn:Func}{c:Code}(m:kZ P ag)(l:rL P ag fit)(z:Enters P f)(hf:P.funcs[f]?=some fn)(y:fn.body=some c)(D:codeOk fit fn.ntmps c=true)
 {args:List PV}{v:PV}(C:args.length<=fn.ntmps)
 (H:b6 P ag (fn.ntmps,0) c (fun e s=>(match e with
  | .exit _=>False
  |_=>True)/\∃vs,fo P s fn.results.toList=some vs/\dZ s.heap 9 (oneOf vs)=some v) ⟨iq 0 (args.map .p),[]⟩):mz P f args v:=by
 refine⟨z,fun w aa I B A x=>?_⟩;have E:bQ P w aa ⟨id,id⟩ [] (fun k=>k<w.heap.size):=⟨by simp,by simp,by simp,B,fun _ h=>h,A⟩
 refine(GO m l hf y D (R:=fun vs s=>dZ s.heap 9 (oneOf vs)=some v) (by simpa using C) H E (jh.2 x) (iM _ _)).mono ?_;rintro e w' ⟨vs,s,J,aD,aJ,t,rfl,u,hs,d,F,G⟩;obtain⟨n,q⟩:=HR F G;have r:=wL hs.heap _ _ _ u q _ n;refine⟨_,Cv aD aJ s.heap,rfl,fun k hk=>.inl (d.bR k hk),?_,?_,d.ext.size,fun k hk=>d.ext.same k (.inl hk),d.ext.io,r⟩
 ·rintro k (hk|⟨b,o,i,hl,rfl⟩)
  ·rcases d.fresh k hk with h|h
   ·exact .inl h
   ·exact .inr (by omega)
  ·by_cases j:aJ.ak b<w.heap.size
   ·
    left;have a:=hs.heap.cF b o i;have:aD (aJ.ak b)\/¬(aJ.ak b<w.heap.size):=by
     have key:∀fz,cB aD aJ (fun k=>k<w.heap.size) fz b->aD (aJ.ak b)\/¬(aJ.ak b<w.heap.size):=fun fz h=>by
      cases fz with
      |true=>exact .inl h
      |false=>exact .inr h.2
     cases o with
     |hole=>exact hl.elim
     |dead=>exact hl.elim
     |box fz t=>obtain⟨_,_,_,_,h,_⟩:=a;exact key _ h
     |arr k al ai es=>
      rcases a with a|⟨_,_,_,_,_,_,_,_,_,_,h,_⟩
      ·exact(hl a).elim
      ·exact key _ h
     |map fz es=>obtain⟨_,_,_,_,h⟩:=a;exact key _ h
     |dt ks vs=>obtain⟨_,_,_,_,_,h⟩:=a;exact key _ h
     |dv s pos=>obtain⟨_,_,_,h⟩:=a;exact key _ h
     |loop L=>obtain⟨_,_,_,_,_,_,h⟩:=a;exact key _ h
    rcases this with h|h
    ·rcases d.fresh _ h with g|g
     ·exact g
     ·exact(g j).elim
    ·exact(h j).elim
   ·exact .inr (by omega)
 ·rintro k (hk|⟨b,o,i,hl,rfl⟩)
  ·exact hs.heap.bR k hk
  ·exact hs.heap.mb i hl
def sL(P:dk)(a:List dz)(N:Nat)(H':Heap)(v:AV)(e:bn)(s:St):Prop:=
 (match e with
  | .exit _=>False
  |_=>True)/\∃vs,fo P s a=some vs/\oneOf vs=v/\(H'=s.heap\/(dJ N s ⟨[],H'⟩/\aB (aH H') v))
theorem UO{f:ec}{fn:Func}{c:Code}(q:kZ P ag)(p:rL P ag fit)(u:Enters P f)(hf:P.funcs[f]?=some fn)(j:fn.body=some c)(A:codeOk fit fn.ntmps c=true)
 {args:List AV}{H H':Heap}{v:AV}(z:args.length<=fn.ntmps)(G:b6 P ag (fn.ntmps,H.length) c (sL P fn.results.toList H.length H' v) ⟨iq 0 args,H⟩):cR P f H args H' v:=by
 refine⟨u,fun w aa ah β I B r C=>?_⟩;refine(GO q p hf j A (R:=fun vs s=>oneOf vs=v/\(H'=s.heap\/(dJ H.length s ⟨[],H'⟩/\aB (aH H') v))) z G B r C).mono ?_;rintro e w' ⟨vs,s,g,aD,aJ,t,rfl,⟨rfl,a⟩,hs,m,F,E⟩;obtain⟨i,k⟩:=HR F E;obtain⟨d,k1,k2,k3⟩:dI H.length ah aa w β H ah aD w' aJ H'/\bQ P w' aD aJ H' ah/\ar P w' aD aJ H' (oneOf vs) (if h:g.toArray.size=1 then g.toArray[0]else .tuple g.toArray)/\aB (aH H') (oneOf vs):=by
  rcases a with rfl|⟨a,D⟩
  ·exact⟨m,hs.heap,i,k⟩
  ·refine⟨m.trans (a.eO (β:=aJ) (ah:=ah) (aa:=aD) (w:=w')),(a.rel hs).heap,?_,D⟩;rcases a with a|a
   ·have e:H'=s.heap:=by rw[<-a]
    rw[e];exact i
   ·exact ar.mono (fun _ x=>x) (fun _ _=>rfl) a.1.step _ _ k i
 refine⟨_,aJ,aD,rfl,⟨d.bR,d.fresh,d.ext,d.step.full,k1,fun x hx=>?_,fun b j=>?_⟩,k2,k3⟩
 ·obtain⟨o,n,y⟩:=hx;exact d.eH x (hp.1 n).1 ⟨o,n,y⟩
 ·obtain⟨L,l⟩:=j;exact d.loop b (hp.1 l).1 ⟨L,l⟩
theorem cL.post{n:Nat}{ah aa aD:Nat->Prop}{β aJ:Bd}{s:St}{H':Heap}{t:Array c6}{w w':da}(h:cL P n ah aa β s t w)(a:bU P ah aa w β s.heap aD w' aJ H'):cL P n ah aD aJ ⟨s.env,H'⟩ t w':=
 ⟨a.rel,fun x=>ar.mono a.bR (fun k hk=>a.ext.same k (.inr hk)) a.step _ _ (h.gn x) (h.env x),fun x=>aB.mono a.eH _ (h.gn x),h.size⟩
def pY:List Tmp->List AV->Env->Env
 |t::ts,v::vs,e=>pY ts vs ((t,v)::e)
 |_,_,e=>e
def gD:bn->Option Code
 | .normal=>none
 | .exit id=>some (.exit id)
 | .ret=>some .ret
def rN(b:Nat)(K:Heap->AV->Prop)(e:bn)(s:St):Prop:=
 match s.heap[b]? with
 |some (.loop L)=>K (s.heap.set b (.loop {L with st:=if(gD e).isNone then .ready else .done,pending:=gD e})) (.p (.bool (gD e).isNone))
 |_=>False
def wK(P:dk)(ag:ec->Bool)(q:Cx)(b:Nat)(body:Code)(K:Heap->AV->Prop)(e:bn)(s:St):Prop:=
 match e,s.heap[b]? with
 | .normal,some (.loop L)=>L.st=.ready/\b6 P ag q body (rN b K) ⟨s.env,s.heap.set b (.loop {L with st:=.busy})⟩
 |_,_=>False
def xC(P:dk)(ag:ec->Bool)(L:eU)(b:Nat)(args:List AV)(H:Heap)(K:Heap->AV->Prop):Prop:=
 b6 P ag (L.n,H.length) L.assign (wK P ag (L.n,H.length) b L.body K) ⟨pY L.params args L.env,H⟩
def pM(ts:List Tmp)(a:List c6)(t:Array c6):Array c6:=(ts.zip a).foldl (fun t(p,v)=>t.setIfInBounds p v) t
theorem Hq{w:da}{aa:Nat->Prop}{β:Bd}{H:Heap}:∀{ts:List Tmp}{vs:List AV}{xs:List c6}{e:Env}{t:Array c6},(∀x∈ts,x<t.size)->bt P w aa β H vs xs->aP (aH H) vs->(∀x,ar P w aa β H (aM e x) (t.getD x undef))->(∀x,aB (aH H) (aM e x))->
 (pM ts xs t).size=t.size/\(∀x,ar P w aa β H (aM (pY ts vs e) x) ((pM ts xs t).getD x undef))/\(∀x,aB (aH H) (aM (pY ts vs e) x))
 |[],vs,xs,e,t,_,a,_,b,c=>by
  cases vs<;>exact⟨rfl,b,c⟩
 |p::ts,[],xs,e,t,_,a,_,b,c=>by
  simp only[bt]at a;subst a;exact⟨rfl,b,c⟩
 |p::ts,v::vs,xs,e,t,hl,a,d,b,c=>by
  simp only[bt]at a;obtain⟨y,g,rfl,k1,k2⟩:=a;simp only[aP]at d;have f:p<t.size:=hl p (by simp);obtain⟨g1,g2,g3⟩:=Hq (ts:=ts) (vs:=vs) (xs:=g) (e:=(p,v)::e) (t:=t.setIfInBounds p y) (fun x hx=>by simpa using hl x (by simp[hx])) k2 d.2
   (fun x=>by
    simp only[aM]
    by_cases hx:x=p
    ·subst hx;simp[f];exact k1
    ·simp only[hx,if_false,b2,Array.getElem?_setIfInBounds_ne (Ne.symm hx)];simpa using b x)
   (fun x=>by
    simp only[aM]
    split
    ·exact d.1
    ·exact c x)
  exact⟨by simpa[pM]using g1,g2,g3⟩
theorem zip_toArray(a:List Tmp)(b:List c6)(t:Array c6):(a.toArray.zip b.toArray).foldl (fun t(p,v)=>t.setIfInBounds p v) t=pM a b t:=by
 unfold pM;rw[<-cc];simp
theorem UN(I:kZ P ag)(G:rL P ag fit){b:Nat}{L:eU}{H H':Heap}{args:List AV}{v:AV}(f:H[b]?=some (.loop L))(aC:args.length=L.params.length)(aD:∀x∈L.params,x<L.n)
 (aq:codeOk fit L.n L.assign=true)(hc:codeOk fit L.n L.body=true)(aI:xC P ag L b args H (fun ae aR=>aR=v/\dJ H.length ⟨[],ae⟩ ⟨[],H'⟩)):ia P b H args H' v:=by
 refine⟨⟨L,f⟩,fun w aa ah β i B W av=>?_⟩;obtain⟨tmps,defers,fn,ao,M,ap,aV⟩:=B.cF b _ f;have s:b<H.length:=(hp.1 f).1;have ay:=(rS W).1;have j:=run_yield (P:=P) (args:=i.toArray) ao (by simp[ay,aC]);obtain⟨q1,aN,aO⟩:=Hq (ts:=L.params) (vs:=args) (xs:=i) (e:=L.env) (t:=tmps) (fun x hx=>by rw[M];exact aD x hx) W av ap (B.refs b _ f);rw[zip_toArray]at j;refine⟨fn,_,_,_,j,fun K ad=>?_⟩;obtain⟨c,z⟩:∃c:dq,c={fn:=fn,tmps:=#[],todo:=[],defers:=[],mode:=.run,kind:=.normal,roundOf:=some (β.ak b)}:=⟨_,rfl⟩
 have g:c.roundOf=some (β.ak b):=by subst z;rfl
 have A:c.kind=.normal:=by subst z;rfl
 have az:Frame.round (β.ak b) fn (pM L.params i tmps) L.assign L.body .normal=bA c (pM L.params i tmps) [] [.code L.assign,.beginRound,.code L.body]:=by subst z;rfl
 have V:qg H.length c β H:=fun l hl=>by
  rw[g]at hl;cases hl;exact⟨b,s,⟨L,f⟩,rfl⟩
 obtain⟨e1,s1,aU,aT,aS,t1,bc,al,g1,an,g3,g4,g5⟩:=lZ (N:=H.length) (fr:=c) (cs:=K::ad) (ds:=[]) I G L.assign [.beginRound,.code L.body] aq aI ⟨B,aN,aO,q1.trans M⟩ V;unfold wK at g1
 split at g1
 case h_2=>exact g1.elim
 rename_i q Q;obtain⟨g1,g6⟩:=g1;obtain⟨ba,m1,_,_,m4,m5⟩:=g5;have aG:=m5 (by rw[g];rfl);subst aG;obtain rfl:al=[]:=m1;have aj:aS.ak b=β.ak b:=(g4.step.loop b s ⟨_,f,trivial⟩ ⟨q,Q⟩).2;obtain⟨rec,ac,aP,aQ,a5,a6,a7,a8,a9,D⟩:=Bo g3.heap Q .busy q.pending;rw[aj]at ac D;have X:=run_beginRound (P:=P) ac (aP.trans g1);have ax:({rec with state:=.busy}:Loop)={rec with state:=.busy,pending:=q.pending}:=by rw[<-aQ]
 rw[ax]at X;have T:=g4.trans (D.eO (N:=H.length));obtain⟨e2,s2,r,p,m,t2,F,am,k1,k2,k3,k4,k5⟩:=lZ (N:=H.length) (fr:=c) (cs:=K::ad) (ds:=[]) I G L.body [] hc g6 (g3.post D) (V.eO T);unfold rN at k1
 split at k1
 case h_2=>exact k1.elim
 rename_i J S;obtain⟨rfl,Y⟩:=k1;obtain⟨bb,aK,_,_,n4,aL⟩:=k5;have aH:=aL (by rw[g];rfl);subst aH;obtain rfl:am=[]:=aK;have aW:∀k,r k->ah k:=fun k hk=>(m4 k ((n4 k hk).resolve_right (by simp))).resolve_right (by simp);have U:=T.trans k4;have ak:m.ak b=β.ak b:=(U.step.loop b s ⟨_,f,trivial⟩ ⟨J,S⟩).2;obtain⟨E,ab,aX,aY,aZ,a0,a1,a3,a4,C⟩:=Bo k3.heap S (if(gD e2).isNone then .ready else .done) (gD e2);rw[ak]at ab C;have u:=run_endRound (P:=P) (gD e2) ab;have au:=U.trans (C.eO (N:=H.length));have d:=au.trans (Y.eO (β:=m) (ah:=r) (aa:=p) (w:=F.putObj (β.ak b) (.loop {E with state:=if(gD e2).isNone then .ready else .done,pending:=gD e2})));refine⟨.bool (gD e2).isNone,F.putObj (β.ak b) (.loop {E with state:=if(gD e2).isNone then .ready else .done,pending:=gD e2}),m,p,?_,?_,by simp[ar,aw],by simp[aB]⟩
 ·rw[az];refine he (an:ea P _ _) ((hd (stepR_beginRound (b:=c) (a:=⟨t1,[]⟩) g X)).trans ?_);cases e2 with
  |normal=>exact he (k2:ea P _ _) (.one (stepR_round_end (b:=c) (a:=⟨t2,[]⟩) g A u))
  |exit id=>
   obtain⟨aJ,ai,a2⟩:=k2;exact he a2 (.one (stepR_round_exit (b:=c) (a:=⟨t2,[]⟩) g A (by rw[ai];rfl) u))
  |ret=>
   obtain⟨aJ,a2⟩:=k2;exact he a2 (.one (stepR_round_ret (b:=c) (a:=⟨t2,[]⟩) g A u))
 ·have aE:cL P 0 r p m ⟨[],s2.heap.set b (.loop {J with st:=if(gD e2).isNone then .ready else .done,pending:=gD e2})⟩ #[] (F.putObj (β.ak b) (.loop {E with state:=if(gD e2).isNone then .ready else .done,pending:=gD e2})):=
   ⟨C.rel,fun x=>by simp[aM,ar,aw],fun x=>by simp[aM,aB],rfl⟩
  have aF:=(Y.rel aE).heap;refine⟨d.bR,d.fresh,d.ext,d.step.full,aF.shut d.dT (R:=fun _=>False) (fun _ h=>h.elim) rfl (fun _ _=>rfl),fun x hx=>?_,fun y j=>?_⟩
  ·obtain⟨o,Z,aA⟩:=hx;exact d.eH x (hp.1 Z).1 ⟨o,Z,aA⟩
  ·obtain⟨af,O⟩:=j;exact d.loop y (hp.1 O).1 ⟨af,O⟩
end
section
variable{P:dk}
theorem J3{w:da}{aa:Nat->Prop}{b:Bool}{v:c6}:aw P w aa (.bool b) v↔v=.bool b:=by simp[aw]
theorem B4{w:da}{aa:Nat->Prop}{k:em}{n:Int}{v:c6}:aw P w aa (.int k n) v↔v=.int k n:=by simp[aw]
theorem Le{w:da}{aa:Nat->Prop}{s:List Nat}{v:c6}:aw P w aa (.str s) v↔∃bs:ByteArray,v=.string bs/\s=bs.data.toList.map (·.toNat):=by simp[aw]
theorem eh{s:Sem c6}{w:da}{a:c6}(h:s.run P w=.ok a w):(do pure (Next.value (<-s)):Sem Next).run P w=.ok (.value a) w:=by simp[h]
theorem tP{s:Sem c6}{w w':da}{a:c6}(h:s.run P w=.ok a w'):(do pure (Next.value (<-s)):Sem Next).run P w=.ok (.value a) w':=by simp[h]
theorem wo{T:db}{v:AV}{w:da}{aa:Nat->Prop}{β:Bd}{H:Heap}{cs:List c6}(hk:kindOf P T=ad v)(c:bf P w aa β H v cs):P.cellsOf T=cs.length/\∃i,P.info? T=some i/\i.size=cs.length:=by
 obtain⟨hl,a⟩:=ng c;have b:P.cellsOf T=cs.length:=by
  rw[hl,<-hk];unfold kindOf at hk⊢
  split at hk
  ·split at hk<;>rename_i hc
   ·simp at hc;rw[if_pos (by simpa using hc)];simp[bE,hc.2]
   ·exact(a hk.symm).elim
  ·split at hk<;>rename_i hc
   ·simp at hc;rw[if_pos (by simpa using hc)];simp[bE,hc]
   ·exact(a hk.symm).elim
  ·split at hk<;>rename_i hc
   ·simp at hc;rw[if_pos (by simpa using hc)];simp[bE,hc]
   ·exact(a hk.symm).elim
  ·exact(a hk.symm).elim
 refine⟨b,?_⟩;cases hi:P.info? T with
 |none=>
  have:kindOf P T=.bad:=by simp[kindOf,gx,hi]
  rw[this]at hk;exact(a hk.symm).elim
 |some i=>exact⟨i,rfl,by simpa[gt,hi]using b⟩
variable{o:Oper}{ρ:c9->AV}{base:Nat}
theorem Ox{x:c9}(a:o.op=.move x\/o.op=.assign x):bh P o ρ base {v:=ρ x}:=by
 refine bh.same fun H w aa ah β c d b _=>?_;refine⟨c x,?_,b x ?_⟩
 ·rcases a with a|a<;>simp[dg,a]
 ·rcases a with a|a<;>simp[a,gi]
theorem azM{c a b:c9}{t:Bool}(d:o.op=.pick c a b)(hc:ρ c=.p (.bool t)):bh P o ρ base {v:=if t then ρ a else ρ b}:=by
 refine bh.same fun H w aa ah β g h f _=>?_;have e:=(f c (by simp[d,gi])).1;rw[hc]at e;simp only[ar,J3]at e;refine⟨if t then g a else g b,by simp[dg,d,e,asBool],?_⟩;cases t with
 |true=>exact f a (by simp[d,gi])
 |false=>exact f b (by simp[d,gi])
theorem Hv{t:c9}{i:Nat}{vs:List AV}{v:AV}(h:o.op=.extract t i)(e:ρ t=.aC vs\/∃l,ρ t=.p (.aC l)/\vs=l.map .p)(hi:vs[i]?=some v):bh P o ρ base {v}:=by
 refine bh.same fun H w aa ah β k n j _=>?_;obtain⟨d,f⟩:=j t (by simp[h,gi]);obtain⟨c,k1,k2,k3⟩:∃c,bt P w aa β H vs c/\k t=.tuple c.toArray/\aP (aH H) vs:=by
  rcases e with e|⟨l,e,rfl⟩
  ·rw[e]at d f;simp only[ar,aB]at d f;obtain⟨c,a,b⟩:=d;exact⟨c,a,b,f⟩
  ·rw[e]at d;simp only[ar,aw]at d;obtain⟨c,a,b⟩:=d;exact⟨c,jh.2 a,b,iM _ _⟩
 obtain⟨g1,g2⟩:=rS k1;have m:i<vs.length:=(hp.1 hi).1;have hx:c[i]?=some (c[i]'(by omega)):=hy (by omega);have g:=g2 i;rw[hi,hx]at g;refine⟨c[i]'(by omega),?_,by simpa using g,b9.1 k3 v (hE hi)⟩;simp only[dg,h,Instr.extract,k2];simp[hx]
theorem azI{c:BinOp}{T j:db}{x y:c9}{k d:em}{a b:Int}{K:PV->Prop}(g:o.op= .binOp c T x y j)(hx:ρ x= .p (.int k a))(t:ρ y= .p (.int d b))(hk:k=d\/c= .shl\/c= .shr)
 (h:oR c k a b K)(aj:List (Nat×Obj)):∃v,K v/\bh P o ρ base {v:=.p v,aj}:=by
 have key:∀v,K v->(∀w:da,(binOp c T (.int k a) (.int d b)).run P w= .ok (match v with| .int k n=> .int k n| .bool b=> .bool b|_=>undef) w)->(∀w aa,aw P w aa v (match v with| .int k n=> .int k n| .bool b=> .bool b|_=>undef))->
  ∃v,K v/\bh P o ρ base {v:=.p v,aj}:=by
  intro v s r q;refine⟨v,s,bh.same fun H w aa ah β z u i _=>?_⟩;have e:=(i x (by simp[g,gi])).1;have f:=(i y (by simp[g,gi])).1;rw[hx]at e;rw[t]at f;simp only[ar,B4]at e f;refine⟨_,?_,by simp only[ar];exact q w aa,by simp[aB]⟩;simp only[dg,g,e,f];refine eh ?_;have m:(eqGuard c T x y (.int k a) (.int d b)).run P w=.ok () w:=by
   unfold eqGuard
   split<;>simp
  simp[m,r w]
 cases c<;>simp only[oR]at h
 case add|sub|mul|and|or|xor|andNot|eql|neq|lss|leq|gtr|geq=>
  obtain rfl:k=d:=by rcases hk with h|h|h<;>first|exact h|cases h
  exact key _ h (fun w=>by simp[binOp,gl,gm,Op.intCmp]) (fun w aa=>by simp[aw])
 case quo|rem=>
  obtain rfl:k=d:=by rcases hk with h|h|h<;>first|exact h|cases h
  exact key _ h.2 (fun w=>by simp[binOp,Op.intDiv,h.1]) (fun w aa=>by simp[aw])
 case shl|shr=>
  have l:¬b<0:=by omega
  exact key _ h.2 (fun w=>by simp[binOp,Op.shift,l]) (fun w aa=>by simp[aw])
theorem Di{u:UnOp}{T:db}{x:c9}{v r:PV}(c:o.op= .unOp u T x)(hx:ρ x= .p v)
 (h:(u=.not/\∃b,v=.bool b/\r=.bool (!b))\/(u=.neg/\∃k n,v=.int k n/\r=.int k (k.wrap (0-n)))\/
  (u=.xor/\∃k n,v=.int k n/\r=.int k (k.wrap (BitVec.ofInt k.bits (if k.signed then -1 else k.max)^^^BitVec.ofInt k.bits n).toNat))):bh P o ρ base {v:=.p r}:=by
 refine bh.same fun H w aa ah β f e d _=>?_;have a:=(d x (by simp[c,gi])).1;rw[hx]at a;simp only[ar]at a;rcases h with⟨rfl,b,rfl,rfl⟩|⟨rfl,k,n,rfl,rfl⟩|⟨rfl,k,n,rfl,rfl⟩
 ·rw[J3]at a;exact⟨_,by simp only[dg,c,a];exact eh (by simp[gj];rfl),by simp[ar,aw],by simp[aB]⟩
 ·rw[B4]at a;exact⟨_,by simp only[dg,c,a];exact eh (by simp[gj,gl];rfl),by simp[ar,aw],by simp[aB]⟩
 ·rw[B4]at a;exact⟨_,by simp only[dg,c,a];exact eh (by simp[gj,gm];rfl),by simp[ar,aw],by simp[aB]⟩
end
section
variable{P:dk}{w:da}{aa ah:Nat->Prop}{β:Bd}{H:Heap}
variable{o:Oper}{ρ:c9->AV}{base:Nat}
theorem kX(H:Heap)(b:Nat)(o':Obj):bd H ([]++newAt b [o'])=H.set b o':=rfl
theorem TL{x:AV}{T:db}(hs:ad x≠ .bad)(hx:iU T (ad x)=true)(hrefs:∀(H:Heap)(w:da)(aa ah:Nat->Prop)(β:Bd)(d:c9->c6),bQ P w aa β H ah->
 (∀y∈o.op.operands,ar P w aa β H (ρ y) (d y)/\aB (aH H) (ρ y))->∃a,ar P w aa β H x a/\aB (aH H) x/\
  (dg d o).run P w=.ok (.value (.pointer (some ⟨w.heap.size,0,none⟩))) {w with heap:=w.heap.push (.cells a.cells T)}):
 bh P o ρ base {v:=.ptr base [],aS:=[.box false x]}:=by
 intro H w aa ah β d b m _ j;obtain⟨a,f,e,g⟩:=hrefs H w aa ah β d b m;have c:H[base]?=some .hole:=by simpa using j 0 (by simp)
 have i:=wV f hs;have aI:=xe (β:=β) c (.box false x) w.heap.size 0;have aj:∀y,aH H y->aH (H.set base (.box false x)) y:=lA c (fun _ h=>h.elim);have l:=rO (cap:=0) b c (ob:=.cells a.cells T) (o':=.box false x)
  ⟨a.cells,T,by simp[Bd.at],bf.mono (fun _ x=>x) (fun k hk=>tZ _ _ (b.bR k hk)) aI _ _ e i,by
   simp only[cB,Bd.at,if_true,cv,if_false];exact⟨fun h=>h6 _ (b.bR _ h),fun h=>h6 _ (b.dT _ h)⟩,by simp,hx⟩ (aB.mono aj _ e)
 refine⟨_,_,_,_,aa,g,.inl rfl,l,?_,?_⟩
 ·simp only[ar,bI,bO,kX];exact⟨rfl,_,_,0,rfl,rfl,fun _=>by simp[Bd.at]⟩
 ·simp only[aB,kX];exact⟨.box false x,by simp only;rw[ht (hp.1 c).1],trivial⟩
theorem azF{T:db}{x:c9}(a:o.op=.box T x)(hs:ad (ρ x)≠.bad)(hx:iU T (ad (ρ x))=true):bh P o ρ base {v:=.ptr base [],aS:=[.box false (ρ x)]}:=by
 refine TL (T:=T) hs hx fun H w aa ah β e f d=>?_;obtain⟨b,c⟩:=d x (by simp[a,gi]);refine⟨e x,b,c,?_⟩;simp only[dg,a];simp[Instr.box,newVar,newRow]
theorem Ad{w:da}{aa:Nat->Prop}:∀(n:Nat)(T:db)(cs:List c6)(t:PV),sx P n T cs=some t->aV P w aa t cs/\kindOf P T=aL t
 |0,_,_,_,h=>by simp[sx]at h
 |n+1,T,cs,t,h=>by
  have go:∀(b:List db)(l:List Nat)(cs:List c6)(fs:List PV),ow P (sx P n) b l cs=some fs->∃a,bc P w aa l fs a/\a.flatten=cs:=by
   intro b
   induction b with
   |nil=>
    intro l cs fs h;cases l with
    |nil=>
     cases cs with
     |nil=>simp[ow]at h;subst h;exact⟨[],by simp[bc]⟩
     |cons c cs=>simp[ow]at h
    |cons s g=>simp[ow]at h
   |cons T b p=>
    intro l cs fs h;cases l with
    |nil=>simp[ow]at h
    |cons s g=>
     simp only[ow]at h
     split at h
     case isFalse=>simp at h
     rename_i k
     split at h
     case h_2=>simp at h
     rename_i v vs f o
     split at h
     case isFalse=>simp at h
     rename_i q;simp at h;subst h;obtain⟨d,_⟩:=Ad n T _ v f;obtain⟨a,e,i⟩:=p g _ vs o;refine⟨cs.take s::a,by simp only[bc];exact⟨_,_,rfl,d,k,e⟩,?_⟩;simp[i]
  unfold sx at h
  split at h
  ·rename_i hk
   split at h
   case h_2=>simp at h
   rename_i c
   split at h
   ·simp at h
   ·rename_i v m;simp at h;subst h;have f:=GD (P:=P) (w:=w) (aa:=aa) c;have hl:aL (ofConst c)=.leaf:=by
     unfold ofConst at m⊢
     split<;>simp_all [aL]
    exact⟨(rR hl _).2 ⟨c,rfl,f⟩,by rw[hk,hl]⟩
  ·rename_i u hk
   split at h
   case h_2=>simp at h
   rename_i l hl
   split at h
   case h_2=>simp at h
   rename_i fs j;simp at h;subst h;obtain⟨a,d,e⟩:=go _ _ _ _ j;refine⟨by simp only[aV];exact⟨l,a,hl,d,e.symm⟩,by simp[aL,hk]⟩
  ·simp at h
theorem n6{T:db}{z:PV}(h:cK P T=some z):∃i a,P.info? T=some i/\i.zero=some a/\(∀(w:da)(aa:Nat->Prop),aV P w aa z a.cells.toList)/\kindOf P T=aL z:=by
 unfold cK at h;cases hi:P.info? T with
 |none=>simp[hi]at h
 |some i=>
  simp only[hi,ix]at h;cases b:i.zero with
  |none=>simp[b]at h
  |some a=>
   simp only[b]at h
   split at h
   case isFalse=>simp at h
   exact⟨i,a,rfl,b,fun w aa=>(Ad 40 T _ z h).1,(Ad (w:=default) (aa:=fun _=>True) 40 T _ z h).2⟩
theorem Kd{T:db}{z:PV}(h:cK P T=some z):∃a,(∀w:da,(zeroValue T).run P w=.ok a w)/\∀(w:da)(aa:Nat->Prop),aw P w aa z a:=by
 obtain⟨i,a,d,e,f,g⟩:=n6 h;refine⟨a,fun w=>by simp[zeroValue,typeInfo,d,e],fun w aa=>?_⟩;have b:yG a (aL z)=true:=by
  unfold cK at h;simp only[d,ix,e]at h
  split at h
  ·rename_i j;rw[<-g];exact j
  ·simp at h
 have hc:=f w aa;cases hs:aL z with
 |bad=>exact((mW hc).2 hs).elim
 |leaf=>
  rw[hs]at b;obtain⟨c,k1,k2⟩:=(rR hs _).1 hc;cases a<;>simp[yG]at b<;>(simp[hm]at k1;subst k1;exact k2)
 |agg u=>
  rw[hs]at b;cases a<;>simp[yG]at b;have:=(uJ hs _).1 hc;simpa[hm]using this
theorem rM{T:db}{i:dp}{a:c6}(h:P.info? T=some i)(b:i.zero=some a)(w:da):(zeroValue T).run P w=.ok a w:=by
 simp[zeroValue,typeInfo,h,b]
theorem U0{T:db}{z:PV}(j:o.op=.alloc T)(m:cK P T=some z)(hx:iU T (aL z)=true):bh P o ρ base {v:=.ptr base [],aS:=[.box false (.p z)]}:=by
 obtain⟨i,b,d,e,f,q⟩:=n6 m;intro H w aa ah β n a r _ g;have c:H[base]?=some .hole:=by simpa using g 0 (by simp)
 have l:(dg n o).run P w=.ok (.value (.pointer (some ⟨w.heap.size,0,none⟩))) {w with heap:=w.heap.push (.cells b.cells T)}:=by
  simp only[dg,j];simp[Instr.alloc,rM d e,newVar,newRow]
 have k:=rO (cap:=0) a c (ob:=.cells b.cells T) (o':=.box false (.p z))
  ⟨b.cells,T,by simp[Bd.at],by simp only[bf];exact f _ _,by
   simp only[cB,Bd.at,if_true,cv,if_false];exact⟨fun h=>h6 _ (a.bR _ h),fun h=>h6 _ (a.dT _ h)⟩,by simp,by simpa[ad]using hx⟩ (by simp[Obj.refs,aB])
 refine⟨_,_,_,_,aa,l,.inl rfl,k,?_,?_⟩
 ·simp only[ar,bI,bO,kX];exact⟨rfl,_,_,0,rfl,rfl,fun _=>by simp[Bd.at]⟩
 ·simp only[aB,kX];exact⟨.box false (.p z),by simp only;rw[ht (hp.1 c).1],trivial⟩
theorem BF{T:db}{a:c9}{v:AV}(h:o.op= .load T a){d:c9->c6}{ak off:Nat}{c:List c6}(g:d a= .pointer (some ⟨ak,off,none⟩))(hk:kindOf P T=ad v)
 (i:bf P w aa β H v c)(hc:gB w ak off c):∃b,(dg d o).run P w=.ok (.value b) w/\ar P w aa β H v b:=by
 obtain⟨b,e,f⟩:=Gs hk i hc;refine⟨b,?_,f⟩;simp only[dg,h,Instr.loadAt,g,fI];simp[e]
theorem yo{ai:Nat}{d:List AV}{g:List (List c6)}(h:Row P w aa β H ai d g){i:Nat}(hi:i<d.length):
 ∃a c post,g.flatten=a++c++post/\a.length=i*ai/\c.length=ai/\bf P w aa β H d[i] c/\
  ∀e c',bf P w aa β H e c'->c'.length=c.length->∃b,b.flatten=a++c'++post/\Row P w aa β H ai (d.set i e) b:=by
 obtain⟨a,c,post,j,k,n,f,l,m⟩:=rZ h (hy hi);have hl:c.length=ai:=by
  rw[hA]at f;rw[if_pos hi]at f;simpa using f.symm
 refine⟨a,c,post,j,?_,hl,l,?_⟩
 ·rw[k,hw,h5 (by omega),hv]
 ·intro e c' hf hc;obtain⟨b,k1,k2⟩:=m e c' hf hc;exact⟨b,k1,by unfold Row;rw[List.length_set];exact k2⟩
theorem azK{T:db}{a:c9}(g:o.op= .load T a){H0:Heap}{K:aU->Prop}(h:nD P T H0 (ρ a) K):
 ∃e,K e/\bh P o ρ base e/\(∀p∈e.aj,H0[p.1]?=some p.2)/\(∀p∈e.aK,p.1<H0.length/\p.2≠.hole):=by
 unfold nD at h
 split at h
 ·rename_i b J m
  split at h
  case h_2=>exact h.elim
  rename_i fz t u
  split at h
  case h_2=>exact h.elim
  rename_i s hs;obtain⟨hk,h⟩:=h;refine⟨_,h,bh.same fun H w aa ah β C j n aj=>?_,by simpa using u,by simp⟩;obtain⟨d,y⟩:=n a (by simp[g,gi]);rw[m]at d;simp only[ar,bI,bO]at d;have f:H[b]?=some (.box fz t):=by simpa using aj
  obtain⟨_,E,I,B,x,r,d⟩:=d;obtain⟨rfl,rfl⟩:=d (.inl ⟨fz,t,f⟩);obtain⟨cs,D,k1,k2,k3,k4⟩:=j.cF b _ f;obtain⟨pre,xs,post,e1,e2,e3,_⟩:=oC k2 hs r;obtain⟨l,g1,g2⟩:=BF g x hk e3 (by rw[<-e2];exact lg k1 e1);exact⟨l,g1,g2,ui hs (j.refs b _ f)⟩
 ·rename_i b al ai i J m
  split at h
  case h_2=>exact h.elim
  rename_i k W S q u;obtain⟨rfl,rfl,hi,h⟩:=h
  split at h
  case h_2=>exact h.elim
  rename_i s hs;obtain⟨hk,h⟩:=h;refine⟨_,h,bh.same fun H w aa ah β C j n aj=>?_,by simpa using u,by simp⟩;obtain⟨d,y⟩:=n a (by simp[g,gi]);rw[m]at d;simp only[ar,bI,bO]at d;have f:H[b]?=some (.arr k al ai q):=by simpa using aj
  have A:¬c8 k q:=fun G=>by rw[G.2]at hi;simp at hi
  obtain⟨_,E,I,B,x,r,d⟩:=d;obtain⟨rfl,rfl⟩:=d k q f A;rcases j.cF b _ f with hold|⟨cs,D,R,rest,k1,k2,k3,_⟩
  ·exact(A hold).elim
  obtain⟨M,c,L,N,O,U,Q,_⟩:=yo k2 hi;obtain⟨pre,xs,post,e1,e2,e3,_⟩:=oC Q hs r;have F:gB w (β.ak b) (i*ai+B) xs:=by
   have:cs.toList=(M++pre)++xs++(post++L++rest):=by rw[k3,N,e1];simp
   have z:=lg k1 this;rw[List.length_append,O,e2]at z;exact z
  obtain⟨l,g1,g2⟩:=BF g x hk e3 F;exact⟨l,g1,g2,ui hs (b9.1 (j.refs b _ f) _ (hW hi))⟩
 ·rename_i t m;obtain⟨hk,h⟩:=h;refine⟨_,h,bh.same fun H w aa ah β C j n aj=>?_,by simp,by simp⟩;obtain⟨d,y⟩:=n a (by simp[g,gi]);rw[m]at d;simp only[ar,aw]at d;obtain⟨ak,off,V,k1,k2,k3,k4⟩:=d;obtain⟨l,g1,g2⟩:=BF (β:=β) (H:=H) (v:=.p t) g k4 (by simpa[ad]using hk) (by simpa only[bf]using k1) k3;exact⟨l,g1,g2,by simp[aB]⟩
 ·exact h.elim
end
section
variable{P:dk}{w:da}{aa ah:Nat->Prop}{β:Bd}{H:Heap}
mutual
theorem Lf:∀{v:PV}{cs:List c6},aV P w aa v cs->∀c∈cs,c.oneCell'=true
 | .undef,_,h| .aC _,_,h=>by simp[aV]at h
 | .bool _,_,h| .int _ _,_,h| .dD,_,h| .aG,_,h| .ff,_,h| .gV,_,h| .fF,_,h=>by simp only[aV]at h;subst h;simp[hh]
 | .str _,_,h=>by simp only[aV]at h;obtain⟨_,rfl,_⟩:=h;simp[hh]
 | .cz _,_,h=>by simp only[aV]at h;obtain⟨_,_,_,_,_,_,rfl⟩:=h;simp[hh]
 | .bw _ _,_,h=>by simp only[aV]at h;obtain⟨_,_,_,_,_,_,_,_,_,_,_,_,rfl⟩:=h;simp[hh]
 | .seq _,_,h=>by simp only[aV]at h;rcases h with⟨_,rfl⟩|⟨_,_,_,_,_,_,_,_,_,_,_,rfl⟩<;>simp[hh]
 | .eE _,_,h=>by simp only[aV]at h;obtain⟨_,_,_,_,_,_,rfl⟩:=h;simp[hh]
 | .func _ _ _,_,h=>by simp only[aV]at h;obtain⟨_,_,_,_,rfl⟩:=h;simp[hh]
 | .st u fs,_,h=>by
  simp only[aV]at h;obtain⟨l,a,b,d,rfl⟩:=h;exact J5 d
theorem J5:∀{l:List Nat}{vs:List PV}{a:List (List c6)},bc P w aa l vs a->∀c∈a.flatten,c.oneCell'=true
 |[],[],_,h=>by simp only[bc]at h;subst h;simp
 |[],_::_,_,h=>by simp[bc]at h
 |_::_,[],_,h=>by simp[bc]at h
 |n::f,v::vs,a,h=>by
  simp only[bc]at h;obtain⟨c,cs,rfl,b,d,e⟩:=h;intro x hx;simp only[hB,hD]at hx;exact hx.elim (Lf b x) (J5 e x)
end
mutual
theorem xL:∀{v:AV}{cs:List c6},bf P w aa β H v cs->∀c∈cs,c.oneCell'=true
 | .p t,_,h=>by simp only[bf]at h;exact Lf h
 | .ptr ..,_,h| .bX ..,_,h| .sl ..,_,h| .map ..,_,h=>by simp only[bf]at h;obtain⟨v,rfl,b,_⟩:=h;simpa using b
 | .func ..,_,h=>by simp only[bf]at h;obtain⟨_,_,_,_,rfl⟩:=h;simp[hh]
 | .aC _,_,h=>by simp[bf]at h
 | .st u fs,_,h=>by
  simp only[bf]at h;obtain⟨l,a,b,d,rfl⟩:=h;exact J6 d
theorem J6:∀{l:List Nat}{vs:List AV}{a:List (List c6)},bH P w aa β H l vs a->∀c∈a.flatten,c.oneCell'=true
 |[],[],_,h=>by simp only[bH]at h;subst h;simp
 |[],_::_,_,h=>by simp[bH]at h
 |_::_,[],_,h=>by simp[bH]at h
 |n::f,v::vs,a,h=>by
  simp only[bH]at h;obtain⟨c,cs,rfl,b,d,e⟩:=h;intro x hx;simp only[hB,hD]at hx;exact hx.elim (xL b x) (J6 e x)
end
theorem pq(d:bQ P w aa β H ah){b:Nat}{o o':Obj}(c:H[b]?=some o)(hl:o.live)(j:o'.live)(l:∀v,o.has v->o'.has v){p new:Array c6}{T:db}
 (i:w.heap[β.ak b]?=some (.cells p T (0,0)))(e:¬aa (β.ak b)/\¬ah (β.ak b))(aI:b8 β H β (H.set b o'))
 (m:eL P (w.setRow (β.ak b) new) aa β (H.set b o') ah b o')(n:o'.refs (aH (H.set b o'))):
 bU P ah aa w β H aa (w.setRow (β.ak b) new) β (H.set b o'):=by
 refine bU.set d (hp.1 c).1 (fun _ _=>⟨rfl,rfl⟩) (fun _ x=>x) (fun _ x=>.inl x) (fun k hk=>by rw[eo];exact d.bR k hk) (by rw[eo];exact h4 _)
  (fun k hk _=>ee w _ k _ (hk.resolve_right (fun h=>h j))) (fun _=>.inr ⟨rfl,⟨o,c,hl⟩,.inr e.1,e.2⟩) aI m n (fun q v a f=>by rw[c]at a;cases a;exact l v f) (fun L g=>by obtain⟨_,_,_,a,_⟩:=d.cF b _ g;rw[i]at a;cases a)
theorem om{b:Nat}{o o':Obj}(l:H[b]?=some o)(hk:(∃f g t B,o= .box f t/\o'= .box g B)\/(∃k v z e m,o= .arr k v z e/\o'= .arr k v z m/\e.length=m.length)\/(∃f g e m,o= .map f e/\o'= .map g m)\/(∃s p y,o= .dv s p/\o'= .dv s y)):
 b8 β H β (H.set b o'):=by
 have u:b<H.length:=(hp.1 l).1;have j:∀x,x≠b->(H.set b o')[x]?=H[x]?:=fun x hx=>hF (Ne.symm hx);have i:(H.set b o')[b]?=some o':=ht u;refine⟨?_,?_,?_,?_,?_⟩
 ·rintro x _ ⟨fz,t,h⟩;refine⟨?_,rfl⟩
  by_cases hx:x=b
  ·subst hx;rw[i]at h;cases h;rcases hk with⟨f,g,t1,t2,c,a⟩|⟨_,_,_,_,_,_,a,_⟩|⟨_,_,_,_,_,a⟩|⟨_,_,_,_,a⟩
   ·exact⟨f,t1,by rw[l,c]⟩
   all_goals cases a
  ·rw[j x hx]at h;exact⟨fz,t,h⟩
 ·rintro x _ ⟨s,p,h⟩;refine⟨?_,rfl⟩
  by_cases hx:x=b
  ·subst hx;rw[i]at h;cases h;rcases hk with⟨f,g,t1,t2,c,a⟩|⟨_,_,_,_,_,_,a,_⟩|⟨_,_,_,_,_,a⟩|⟨s1,n,A,c,a⟩
   ·cases a
   ·cases a
   ·cases a
   ·exact⟨s1,n,by rw[l,c]⟩
  ·rw[j x hx]at h;exact⟨s,p,h⟩
 ·rintro x _ ⟨w,h,d⟩;refine⟨?_,rfl⟩
  by_cases hx:x=b
  ·subst hx;rw[i]at h;cases h;rcases hk with⟨f,g,t1,t2,c,a⟩|⟨_,_,_,_,_,_,a,_⟩|⟨f,g,e1,e2,c,a⟩|⟨s1,n,A,c,a⟩
   ·rw[a]at d;exact d.elim
   ·rw[a]at d;exact d.elim
   ·exact⟨o,l,by rw[c];trivial⟩
   ·rw[a]at d;exact d.elim
  ·rw[j x hx]at h;exact⟨w,h,d⟩
 ·intro x al ai k e _ h
  by_cases hx:x=b
  ·subst hx;unfold ez at h⊢;rw[i]at h;cases h;rcases hk with⟨f,g,t1,t2,c,a⟩|⟨k0,v,z,q,C,c,a,r⟩|⟨_,_,_,_,_,a⟩|⟨_,_,_,_,a⟩
   ·cases a
   ·cases a;refine⟨k,q,by rw[l,c],by omega,?_,fun _=>⟨rfl,rfl⟩⟩;unfold c8;rw[<-hz,<-hz,r]
   ·cases a
   ·cases a
  ·unfold ez at h⊢;rw[j x hx]at h;exact⟨k,e,h,h4 _,Iff.rfl,fun _=>⟨rfl,rfl⟩⟩
 ·rintro x _ ⟨L,h⟩;refine⟨?_,rfl⟩
  by_cases hx:x=b
  ·subst hx;rw[i]at h;cases h;rcases hk with⟨f,g,t1,t2,c,a⟩|⟨_,_,_,_,_,_,a,_⟩|⟨_,_,_,_,_,a⟩|⟨_,_,_,_,a⟩<;>cases a
  ·rw[j x hx]at h;exact⟨L,h⟩
variable{o:Oper}{ρ:c9->AV}{base:Nat}
theorem HG{T:db}{a x:c9}(n:o.op= .store T a x){e:c9->c6}{ak off:Nat}{b:List c6}{d:Array c6}{f:db}(j:e a= .pointer (some ⟨ak,off,none⟩))
 (hx:(e x).cells.toList=b)(p:P.cellsOf T=b.length/\∃i,P.info? T=some i/\i.size=b.length)(k:w.heap[ak]?=some (.cells d f (0,0)))(m:∀c∈b,c.oneCell'=true)(hl:off+b.length<=d.size):
 (dg e o).run P w=.ok .skip (w.setRow ak (d.toList.take off++b++d.toList.drop (off+b.length)).toArray):=by
 obtain⟨_,i,hi,l⟩:=p;have h:(sizeOf T).run P w=.ok b.length w:=by simp[sizeOf,typeInfo,hi,l]
 have g:=ej (P:=P) ak off f b 0 d w k (by simpa using hl) m;simp only[h7]at g;have q:(e x).cells.size=b.length:=by rw[<-hx];simp
 simp only[dg,n,Instr.storeAt,j,fI];simp[storeVar,h,q,hx,g]
theorem AN(u:db)(fs:List AV):ad (gN u fs)=.agg u:=by
 unfold gN;split<;>rfl
theorem Up{t:AV}{c:List (db×Nat)}{x s d:AV}(hs:eB t c=some s)(a:fB t c x=some d)(e:ad s=ad x):ad d=ad t:=by
 cases c with
 |nil=>
  simp only[fB,i0]at a;subst a;have:s=t:=by
   cases t<;>simp[eB]at hs<;>exact hs.symm
  rw[<-e,this]
 |cons p r=>
  obtain⟨u,i⟩:=p;cases t<;>simp only[fB]at a
  case p t=>
   split at a
   case isFalse=>simp at a
   rename_i b
   split at a
   case h_2=>simp at a
   split at a
   case h_2=>simp at a
   simp only[i0]at a;subst a;rw[AN];simp[ad,b]
  case st u' fs=>
   split at a
   case isFalse=>simp at a
   rename_i b
   split at a
   case h_2=>simp at a
   split at a
   case h_2=>simp at a
   simp only[i0]at a;subst a;rw[AN];simp[ad,b]
  all_goals simp at a
theorem VB{T:db}{a x:c9}(z:o.op= .store T a x){H0:Heap}{K:aU->Prop}(h:nq P T H0 (ρ a) (ρ x) K):
 ∃e,K e/\bh P o ρ base e/\(∀p∈e.aj,H0[p.1]?=some p.2)/\(∀p∈e.aK,p.1<H0.length/\p.2≠.hole):=by
 unfold nq at h;obtain⟨hk,ac,h⟩:=h
 split at h
 ·rename_i b aq N
  split at h
  case h_2=>exact h.elim
  rename_i t B
  split at h
  case h_2=>exact h.elim
  rename_i s j hs r;obtain⟨J,h⟩:=h;refine⟨_,h,?_,by simpa using B,by simpa using(hp.1 B).1⟩;intro H w aa ah β f l D aj _;have d:H[b]?=some (.box false t):=by simpa using aj
  obtain⟨g,_⟩:=D a (by simp[z,gi]);obtain⟨ab,M⟩:=D x (by simp[z,gi]);rw[N]at g;simp only[ar,bI,bO]at g;obtain⟨_,am,Z,L,W,U,g⟩:=g;obtain⟨rfl,rfl⟩:=g (.inl ⟨false,t,d⟩);obtain⟨cs,A,k1,k2,k3,k4⟩:=l.cF b _ d;obtain⟨pre,xs,post,e1,e2,e3,e4⟩:=oC k2 hs U;have m:=wV ab ac;have q:(f x).cells.toList.length=xs.length:=by rw[(ng m).1,(ng e3).1,J]
  have ae:cs.size=pre.length+xs.length+post.length:=by
   have:=congrArg hJ e1;simp at this;omega
  have C:=HG z W rfl (wo hk m) k1 (xL m) (by omega);have aS:(cs.toList.take Z++(f x).cells.toList++cs.toList.drop (Z+(f x).cells.toList.length))=pre++(f x).cells.toList++post:=by
   rw[e1,q,<-e2];simp
  rw[aS]at C;have aI:b8 β H β (H.set b (.box false j)):=om d (.inl ⟨_,_,_,_,rfl,rfl⟩);have Q:∀y,aH H y->aH (H.set b (.box false j)) y:=lA d (fun _ h=>h);have X:∀k,aa k->(w.setRow (β.ak b) (pre++(f x).cells.toList++post).toArray).heap[k]?=w.heap[k]?:=fun k S=>ee w _ k _ (fun O=>k3.1 (O▸S));have V:=pq l d trivial (o':=.box false j) trivial (fun _ h=>h) k1 (new:=(pre++(f x).cells.toList++post).toArray) k3 aI
   ⟨_,A,eq w _ _ _ A _ k1,bf.mono (fun _ x=>x) X aI _ _ (uj r (l.refs b _ d) M) (e4 _ _ _ r m q),k3,by simp,by rw[Up hs r J];exact k4.2⟩
   (aB.mono Q _ (uj r (l.refs b _ d) M))
  exact⟨_,_,_,β,aa,C,.inr ⟨rfl,rfl⟩,V,by simp[ar,aw,bg,undef],by simp[aB]⟩
 ·rename_i b al ai i aq N
  split at h
  case h_2=>exact h.elim
  rename_i k aD aA n B;obtain⟨rfl,rfl,ag,hi,h⟩:=h
  split at h
  case h_2=>exact h.elim
  rename_i s j hs r;obtain⟨J,h⟩:=h;refine⟨_,h,?_,by simpa using B,by simpa using(hp.1 B).1⟩;intro H w aa ah β f l D aj _;have d:H[b]?=some (.arr k al ai n):=by simpa using aj
  obtain⟨g,_⟩:=D a (by simp[z,gi]);obtain⟨ab,M⟩:=D x (by simp[z,gi]);rw[N]at g;simp only[ar,bI,bO]at g;have I:¬c8 k n:=fun G=>by rw[G.2]at hi;simp at hi
  obtain⟨_,am,Z,L,W,U,g⟩:=g;obtain⟨rfl,rfl⟩:=g k n d I;rcases l.cF b _ d with hold|⟨cs,A,az,rest,k1,k2,k3,k4,k5,k6,k7,k8⟩
  ·exact(I hold).elim
  have af:¬aa (β.ak b)/\¬ah (β.ak b):=by
   unfold cB at k7;rw[if_neg (by simpa using ag)]at k7;exact k7
  obtain⟨u,c,F,au,av,aC,ax,ay⟩:=yo k2 hi;obtain⟨pre,xs,post,e1,e2,e3,e4⟩:=oC ax hs U;have m:=wV ab ac;have q:(f x).cells.toList.length=xs.length:=by rw[(ng m).1,(ng e3).1,J]
  have ad:cs.toList=(u++pre)++xs++(post++F++rest):=by rw[k3,au,e1];simp
  have ae:cs.size=(u++pre).length+xs.length+(post++F++rest).length:=by
   have:=congrArg hJ ad;simp at this⊢;omega
  have ap:(u++pre).length=i*ai+L:=by simp[av,e2]
  have C:=HG z W rfl (wo hk m) k1 (xL m) (by omega);have aS:(cs.toList.take (i*ai+L)++(f x).cells.toList++cs.toList.drop (i*ai+L+(f x).cells.toList.length))=(u++pre)++(f x).cells.toList++(post++F++rest):=by
   rw[ad,q,<-ap,hC (u++pre),List.take_left',List.drop_append,hC]
   ·simp
   ·rfl
  rw[aS]at C;obtain⟨an,c1,c2⟩:=ay j _ (e4 _ _ _ r m q) (by rw[e1];simp[q]);have aI:b8 β H β (H.set b (.arr k al ai (n.set i j))):=om d (.inr (.inl ⟨_,_,_,_,_,rfl,rfl,by simp⟩));have Q:∀y,aH H y->aH (H.set b (.arr k al ai (n.set i j))) y:=lA d (fun _ h=>h);have ao:¬c8 k (n.set i j):=fun G=>I ⟨G.1,by have:=G.2;rw[List.set_eq_nil_iff]at this;exact this⟩;have ak:aP (aH H) (n.set i j):=by
   rw[b9];intro v Y;rcases hK Y with Y|rfl
   ·exact b9.1 (l.refs b _ d) v Y
   ·exact uj r (b9.1 (l.refs b _ d) _ (hW hi)) M
  have X:∀E,aa E->(w.setRow (β.ak b) ((u++pre)++(f x).cells.toList++(post++F++rest)).toArray).heap[E]?=w.heap[E]?:=fun E S=>ee w _ E _ (fun O=>af.1 (O▸S));have V:=pq l d I (o':=.arr k al ai (n.set i j)) ao (fun _ h=>h) k1 (new:=((u++pre)++(f x).cells.toList++(post++F++rest)).toArray) af aI
   (.inr ⟨_,A,an,rest,eq w _ _ _ A _ k1,bH.mono (fun _ x=>x) X aI _ _ _ ak c2,by rw[c1];simp,by
    rw[<-k4,ae];simp[q];omega,by simpa using k5,fun R=>by rw[k6 R];simp,k7,(fun R=>(ag R).elim),k8.2⟩)
   (aP.mono Q _ ak)
  exact⟨_,_,_,β,aa,C,.inr ⟨rfl,rfl⟩,V,by simp[ar,aw,bg,undef],by simp[aB]⟩
 ·exact h.elim
end
section
variable{P:dk}{w:da}{aa ah:Nat->Prop}{β:Bd}{H:Heap}
theorem z8(P:dk)(T:db):P.underlying T=(P.info? (P.underlyingId T)).map (fun i:dp=>i.desc):=by
 unfold gx gy;cases hi:P.info? T with
 |none=>simp[hi]
 |some i=>
  obtain⟨d,_,_,_,_,_,_,_,_,_⟩:=i;cases d<;>simp[hi]
theorem Aq{T u:db}(h:kindOf P T=.agg u):u=P.underlyingId T/\(∃l,dH P u=some l)/\P.cellsOf T=P.cellsOf u:=by
 unfold kindOf at h
 split at h
 ·split at h
  ·rename_i hc;simp at h;subst h;simp at hc;exact⟨rfl,ik.1 hc.1,hc.2⟩
  ·simp at h
 ·split at h
  ·rename_i hc;simp at h;subst h;simp at hc;exact⟨rfl,ik.1 hc.1,hc.2⟩
  ·simp at h
 ·split at h<;>simp at h
 ·simp at h
theorem tR{T u:db}{n:Nat}(h:fZ P T=some (u,n)):∃fs l,P.underlying T=some (.struct fs)/\fs.size=n/\kindOf P T= .agg u/\dH P u=some l/\l.length=n/\
 ∀(i:Nat)(_hi:i<n),∃f,fs[i]?=some f/\f.offset=(l.take i).sum/\l[i]?=some (P.cellsOf f.type)/\0<P.cellsOf f.type/\(je P u)[i]?=some f.type:=by
 unfold fZ at h
 split at h
 case h_2=>simp at h
 rename_i u' fs hk b;simp at h;obtain⟨rfl,rfl⟩:=h;obtain⟨e,⟨l,hl⟩,_⟩:=Aq hk;refine⟨fs,l,b,rfl,hk,hl,?_⟩;have a:(P.info? u').map (fun i:dp=>i.desc)=some (.struct fs):=by rw[e,<-z8,b]
 unfold dH at hl;rw[a]at hl;dsimp only at hl
 split at hl
 case isFalse=>simp at hl
 rename_i hc;simp at hl;simp only[cx,hX,decide_eq_true_eq,beq_iff_eq]at hc;obtain⟨⟨c,g⟩,d⟩:=hc;subst hl;refine⟨by simp,fun i hi=>?_⟩;refine⟨fs[i],by simp[hi],?_,by simp[hi],?_,?_⟩
 ·have:=d (fs[i],i) (by rw[List.mem_iff_getElem?];exact⟨i,by simp[hi]⟩);simpa using this
 ·have:=c (P.cellsOf fs[i].type) (by simp;exact⟨fs[i],by simp,rfl⟩);exact this
 ·unfold je;rw[a];simp[hi]
theorem rU{T u:db}{n:Nat}(h:gM P T=some (u,n)):∃e,P.underlying T=some (.array n e)/\kindOf P T=.agg u/\dH P u=some (hr n (P.cellsOf e))/\0<P.cellsOf e:=by
 unfold gM at h
 split at h
 case h_2=>simp at h
 rename_i u' f e hk a;simp at h;obtain⟨rfl,rfl⟩:=h;obtain⟨c,⟨l,hl⟩,_⟩:=Aq hk;have b:(P.info? u').map (fun i:dp=>i.desc)=some (.array f e):=by rw[c,<-z8,a]
 have d:=hl;unfold dH at hl;rw[b]at hl;dsimp only at hl
 split at hl
 case isFalse=>simp at hl
 rename_i hc;simp at hl hc;exact⟨e,a,hk,by rw[d,hl],hc.1⟩
theorem wv{p q:List (db×Nat)}{a b:Nat}(c:fL P p=some a)(f:fL P q=some b):fL P (p++q)=some (a+b):=by
 induction p generalizing a with
 |nil=>simp[fL]at c;subst c;simpa using f
 |cons x p g=>
  obtain⟨u,i⟩:=x;simp only[fL]at c;cases d:dH P u with
  |none=>simp[d]at c
  |some l=>
   cases e:fL P p with
   |none=>simp[d,e]at c
   |some a'=>
    simp[d,e]at c;obtain⟨hi,rfl⟩:=c;simp only[List.cons_append,fL,d,g e,if_pos hi];congr 1;omega
theorem wA{u:db}{i:Nat}{l:List Nat}(hl:dH P u=some l)(hi:i<l.length):fL P [(u,i)]=some (l.take i).sum:=by
 simp[fL,hl,hi]
variable{o:Oper}{ρ:c9->AV}{base:Nat}
theorem jM(ak off n:Nat):(⟨ak,off,none⟩:Addr).add n=⟨ak,off+n,none⟩:=by unfold Addr.add;split<;>simp_all
theorem Rd{T:db}{a:c9}{f:Nat}(v:o.op= .fieldAddr T a f){K:aU->Prop}(h:mV P T (ρ a) f K):
 ∃e,K e/\bh P o ρ base e/\e.aj=[]/\e.aK=[]:=by
 unfold mV at h
 split at h
 case h_2=>exact h.elim
 rename_i u n aI;obtain⟨hf,h⟩:=h;obtain⟨fs,l,J,x,hk,hl,N,E⟩:=tR aI;obtain⟨fd,g1,g2,g3,g4,g5⟩:=E f hf;have z:=wA hl (by omega:f<l.length);have B:∀(w:da)(d:c9->c6)(ak off:Nat),d a=.pointer (some ⟨ak,off,none⟩)->(dg d o).run P w=.ok (.value (.pointer (some ⟨ak,off+(l.take f).sum,none⟩))) w:=by
  intro w d ak off m;obtain⟨i,hi⟩:∃i,P.info? fd.type=some i:=by
   cases hi:P.info? fd.type with
   |none=>simp[gt,hi]at g4
   |some i=>exact⟨i,rfl⟩
  have I:(sizeOf fd.type).run P w=.ok (P.cellsOf fd.type) w:=by simp[sizeOf,typeInfo,hi,gt]
  simp only[dg,v];refine eh ?_;have G:¬P.cellsOf fd.type=0:=by omega
  simp[Instr.fieldAt,cy J,g1,m,fI,fieldPlace,I,G,jM,g2]
 split at h
 ·rename_i b M m;refine⟨_,h,bh.same fun H w aa ah β d D r _=>?_,rfl,rfl⟩;obtain⟨c,j⟩:=r a (by simp[v,gi]);rw[m]at c j;simp only[ar,bI,bO,aB]at c j;obtain⟨_,ak,off,L,A,y,p⟩:=c;refine⟨_,B w d _ _ A,?_,by simpa[aB]using j⟩;simp only[ar,bI,bO];exact⟨rfl,_,_,_,rfl,wv y z,fun q=>⟨(p q).1,by rw[(p q).2]⟩⟩
 ·rename_i b al ai i M m;refine⟨_,h,bh.same fun H w aa ah β d D r _=>?_,rfl,rfl⟩;obtain⟨c,j⟩:=r a (by simp[v,gi]);rw[m]at c j;simp only[ar,bI,bO,aB]at c j;obtain⟨_,ak,off,L,A,y,p⟩:=c;refine⟨_,B w d _ _ A,?_,by simpa[aB]using j⟩;simp only[ar,bI,bO];exact⟨rfl,_,_,_,rfl,wv y z,fun k C q x=>⟨(p k C q x).1,by rw[(p k C q x).2];omega⟩⟩
 ·rename_i t m;obtain⟨hs,h⟩:=h
  split at h
  case h_2=>exact h.elim
  rename_i g F;refine⟨_,h,?_,rfl,rfl⟩;refine bh.same fun H w aa ah β d D r _=>?_;obtain⟨c,_⟩:=r a (by simp[v,gi]);rw[m]at c;simp only[ar,aw]at c;obtain⟨ak,off,O,k1,k2,k3,k4⟩:=c;refine⟨_,B w d _ _ k4,?_,by simp[aB]⟩;obtain⟨pre,xs,post,e1,e2,e3⟩:=xy (path:=[(u,f)]) (s:=g) k1 (by simp[kl,hs,F]) z;simp only[ar,aw];refine⟨ak,off+(l.take f).sum,xs,e3,k2,?_,rfl⟩;intro i hi;have:=k3 (pre.length+i) (by rw[e1];simp;omega);rw[<-e2,ih,this];congr 1;simp only[e1,hC];rw[hL (by omega)];simp only[h8];rw[hM hi]
 ·exact h.elim
end
section
variable{P:dk}{w:da}{aa ah:Nat->Prop}{β:Bd}{H:Heap}
variable{o:Oper}{ρ:c9->AV}{base:Nat}
theorem rE{ak off:Nat}{a pre xs post:List c6}(h:gB w ak off a)(e:a=pre++xs++post):gB w ak (off+pre.length) xs:=by
 intro i hi;have:=h (pre.length+i) (by rw[e];simp;omega);rw[ih,this];congr 1;simp only[e,hC];rw[hL (by omega)];simp only[h8];rw[hM hi]
structure pz(P:dk)(T:db)(sz:Nat)(e:db)(i:dp):Prop where
 fT:P.underlying T=some (.slice e)
 info:P.info? e=some i
 size:i.size=sz
 pos:0<sz
 bytes:i.bytes<32768
 aDO:0<i.bytes
 ph:dQ P T=e
theorem jH{T:db}{sz:Nat}(h:cN P T=some sz):∃e i,pz P T sz e i:=by
 unfold cN at h
 split at h
 case h_2=>simp at h
 rename_i e a
 split at h
 case h_2=>simp at h
 rename_i i hi
 split at h
 case isFalse=>simp at h
 rename_i hc;simp at h;subst h;exact⟨e,i,a,hi,rfl,hc.2.1,hc.1,hc.2.2,by simp[dQ,a]⟩
theorem pz.run{T:db}{sz:Nat}{e:db}{i:dp}(h:pz P T sz e i)(w:da):(sizeOf e).run P w=.ok sz w:=by
 simp[sizeOf,typeInfo,h.info,h.size]
theorem Rc{T:db}{x R:c9}(B:o.op= .indexAddr T x R){H0:Heap}{K:aU->Prop}(h:mU P T H0 (ρ x) (ρ R) K):
 ∃e,K e/\bh P o ρ base e/\(∀p∈e.aj,H0[p.1]?=some p.2)/\e.aK=[]:=by
 unfold mU at h
 split at h
 case h_2=>exact h.elim
 rename_i au n an;obtain⟨C,h⟩:=h;have E:x∈o.op.operands:=by simp[B,gi]
 have ao:R∈o.op.operands:=by simp[B,gi]
 have D:∀{H:Heap}{w:da}{aa:Nat->Prop}{β:Bd}{z:c9->c6},(∀y∈o.op.operands,ar P w aa β H (ρ y) (z y)/\aB (aH H) (ρ y))->z R=.int au n:=by
  intro H w aa β z f;have:=(f R ao).1;rw[an]at this;simpa[ar,aw]using this
 split at h
 ·
  rename_i full d hx;obtain⟨j,r,h⟩:=h;obtain⟨e,ag,A⟩:=jH r;refine⟨_,h,bh.same fun H w aa ah β z N f _=>?_,by simp,rfl⟩;obtain⟨a,_⟩:=f x E;rw[hx]at a;simp only[ar,aw]at a;obtain⟨ak,off,cap,ai,U,k1,k2,k3,k4,k5,sp,ab,k6⟩:=a;obtain rfl:sp=none:=ab.resolve_right (by omega);have Z:Row P w aa ⟨id,id⟩ [] ai (d.map .p) U:=ly.2 k1;obtain⟨pre,c,post,ac,ad,ae,S,_⟩:=yo Z (i:=n.toNat) (by simpa using j);have L:aV P w aa d[n.toNat] c:=by
   have:(d.map AV.p)[n.toNat]'(by simpa using j)=.p d[n.toNat]:=by simp
   rw[this]at S;simpa only[bf]using S
  have W:bE P (aL d[n.toNat])=ai:=by rw[<-(mW L).1,ae]
  refine⟨.pointer (some ⟨ak,off+n.toNat*ai,none⟩),?_,?_,by simp[aB]⟩
  ·simp only[dg,B];refine eh ?_;have q:n<(d.length:Int):=by omega
   simp[gb,D f,asIntOf,cy A.fT,k6,C,q,A.run,W,jM]
  ·simp only[ar,aw];refine⟨ak,off+n.toNat*ai,c,L,k2 (by intro F;rw[F]at j;simp at j),?_,rfl⟩;rw[<-ad];exact rE k3 ac
 ·
  rename_i d hx;obtain⟨j,r,h⟩:=h;obtain⟨e,ag,A⟩:=jH r;refine⟨_,h,bh.same fun H w aa ah β z N f _=>?_,by simp,rfl⟩;obtain⟨a,_⟩:=f x E;rw[hx]at a;simp only[ar,aw]at a;rcases a with⟨rfl,_⟩|⟨ak,off,cap,ai,U,k1,k2,k3,k5,sp,ab,k6⟩
  ·simp at j
  obtain rfl:sp=none:=ab.resolve_right (by omega);have Z:Row P w aa ⟨id,id⟩ [] ai (d.map .p) U:=ly.2 k1;obtain⟨pre,c,post,ac,ad,ae,S,_⟩:=yo Z (i:=n.toNat) (by simpa using j);have L:aV P w aa d[n.toNat] c:=by
   have:(d.map AV.p)[n.toNat]'(by simpa using j)=.p d[n.toNat]:=by simp
   rw[this]at S;simpa only[bf]using S
  have W:bE P (aL d[n.toNat])=ai:=by rw[<-(mW L).1,ae]
  refine⟨.pointer (some ⟨ak,off+n.toNat*ai,none⟩),?_,?_,by simp[aB]⟩
  ·simp only[dg,B];refine eh ?_;have q:n<(d.length:Int):=by omega
   simp[gb,D f,asIntOf,cy A.fT,k6,C,q,A.run,W,jM]
  ·simp only[ar,aw];refine⟨ak,off+n.toNat*ai,c,L,k2 (by intro F;rw[F]at j;simp at j),?_,rfl⟩;rw[<-ad];exact rE k3 ac
 ·
  rename_i b al ai off len hx;obtain⟨r,j,h⟩:=h;obtain⟨e,ag,A⟩:=jH r
  split at h
  case h_2=>exact h.elim
  rename_i k aE az d aq;obtain⟨rfl,rfl,ap,h⟩:=h;refine⟨_,h,bh.same fun H w aa ah β z N f aj=>?_,by simpa using aq,rfl⟩;obtain⟨a,l⟩:=f x E;rw[hx]at a l;simp only[ar,bI,bO,aB]at a l;have af:H[b]?=some (.arr k al ai d):=by simpa using aj
  obtain⟨g1,g2,V⟩:=a.2 k d af;have V:=V ap;refine⟨.pointer (some ⟨β.ak b,off*ai+n.toNat*ai,none⟩),?_,?_,by simpa[aB]using l⟩
  ·simp only[dg,B];refine eh ?_;have q:n<(len:Int):=by omega
   simp[gb,D f,asIntOf,cy A.fT,V,C,q,A.run,jM]
  ·simp only[ar,bI,bO];refine⟨rfl,_,_,0,rfl,rfl,fun aC ay v aA=>?_⟩;unfold ez at v;rw[af]at v;cases v;exact⟨rfl,by rw[ii];simp⟩
 ·
  rename_i b ax hx
  split at h
  case h_2=>exact h.elim
  rename_i u m G;obtain⟨j,h⟩:=h;obtain⟨e,Q,hk,hl,M⟩:=rU G;refine⟨_,h,bh.same fun H w aa ah β z N f _=>?_,by simp,rfl⟩;obtain⟨a,l⟩:=f x E;rw[hx]at a l;simp only[ar,bI,bO,aB]at a l;obtain⟨_,ak,off,av,Y,X,v⟩:=a;have J:=wA hl (i:=n.toNat) (by simpa using j);have O:((hr m (P.cellsOf e)).take n.toNat).sum=n.toNat*P.cellsOf e:=by rw[hw,h5 (by omega),hv]
  have r:(sizeOf e).run P w=.ok (P.cellsOf e) w:=by
   cases hi:P.info? e with
   |none=>simp[gt,hi]at M
   |some i=>simp[sizeOf,typeInfo,hi,gt]
  refine⟨.pointer (some ⟨ak,off+n.toNat*P.cellsOf e,none⟩),?_,?_,by simpa[aB]using l⟩
  ·simp only[dg,B];refine eh ?_;have q:n<(m:Int):=by omega
   simp[gb,D f,asIntOf,cy Q,Y,fI,C,q,r,jM]
  ·simp only[ar,bI,bO];exact⟨rfl,_,_,_,rfl,wv X J,fun I=>⟨(v I).1,by rw[(v I).2,O]⟩⟩
 ·rename_i b al ai i ax hx
  split at h
  case h_2=>exact h.elim
  rename_i u m G;obtain⟨j,h⟩:=h;obtain⟨e,Q,hk,hl,M⟩:=rU G;refine⟨_,h,bh.same fun H w aa ah β z N f _=>?_,by simp,rfl⟩;obtain⟨a,l⟩:=f x E;rw[hx]at a l;simp only[ar,bI,bO,aB]at a l;obtain⟨_,ak,off,av,Y,X,v⟩:=a;have J:=wA hl (i:=n.toNat) (by simpa using j);have O:((hr m (P.cellsOf e)).take n.toNat).sum=n.toNat*P.cellsOf e:=by rw[hw,h5 (by omega),hv]
  have r:(sizeOf e).run P w=.ok (P.cellsOf e) w:=by
   cases hi:P.info? e with
   |none=>simp[gt,hi]at M
   |some i=>simp[sizeOf,typeInfo,hi,gt]
  refine⟨.pointer (some ⟨ak,off+n.toNat*P.cellsOf e,none⟩),?_,?_,by simpa[aB]using l⟩
  ·simp only[dg,B];refine eh ?_;have q:n<(m:Int):=by omega
   simp[gb,D f,asIntOf,cy Q,Y,fI,C,q,r,jM]
  ·simp only[ar,bI,bO];exact⟨rfl,_,_,_,rfl,wv X J,fun k d I F=>⟨(v k d I F).1,by rw[(v k d I F).2,O];omega⟩⟩
 ·rename_i t hx
  split at h
  case h_2=>exact h.elim
  rename_i u m G;obtain⟨hs,j,h⟩:=h
  split at h
  case h_2=>exact h.elim
  rename_i g am;obtain⟨e,Q,hk,hl,M⟩:=rU G;refine⟨_,h,bh.same fun H w aa ah β z N f _=>?_,by simp,rfl⟩;obtain⟨a,_⟩:=f x E;rw[hx]at a;simp only[ar,aw]at a;obtain⟨ak,off,aD,k1,k2,k3,k4⟩:=a;have J:=wA hl (i:=n.toNat) (by simpa using j);have O:((hr m (P.cellsOf e)).take n.toNat).sum=n.toNat*P.cellsOf e:=by rw[hw,h5 (by omega),hv]
  have r:(sizeOf e).run P w=.ok (P.cellsOf e) w:=by
   cases hi:P.info? e with
   |none=>simp[gt,hi]at M
   |some i=>simp[sizeOf,typeInfo,hi,gt]
  obtain⟨pre,xs,post,e1,e2,e3⟩:=xy (path:=[(u,n.toNat)]) (s:=g) k1 (by simp[kl,hs,am]) J;refine⟨.pointer (some ⟨ak,off+n.toNat*P.cellsOf e,none⟩),?_,?_,by simp[aB]⟩
  ·simp only[dg,B];refine eh ?_;have q:n<(m:Int):=by omega
   simp[gb,D f,asIntOf,cy Q,k4,fI,C,q,r,jM]
  ·simp only[ar,aw];refine⟨ak,_,xs,e3,k2,?_,rfl⟩;rw[<-O,<-e2];exact rE k3 e1
 ·exact h.elim
theorem aBb{bs:ByteArray}{s:List Nat}(h:s=bs.data.toList.map (·.toNat)){i:Nat}(hi:i<s.length):∃b:UInt8,bs[i]?=some b/\b.toNat=s[i]:=by
 subst h;have a:i<bs.size:=by simpa using hi
 refine⟨bs[i],by simp[a],?_⟩;simp only[List.getElem_map,cb];rfl
theorem Sf{T:db}{x f:c9}{s:List Nat}{k:em}{n:Int}(e:o.op= .index T x f)(hx:ρ x= .p (.str s))(hi:ρ f= .p (.int k n))(d:gY P T=true)(i:0<=n)(g:n.toNat<s.length):
 bh P o ρ base {v:=.p (.int .u8 (s[n.toNat]'g))}:=by
 refine bh.same fun H w aa ah β m l h _=>?_;have a:=(h x (by simp[e,gi])).1;have c:=(h f (by simp[e,gi])).1;rw[hx]at a;rw[hi]at c;simp only[ar,aw]at a c;obtain⟨bs,e1,e2⟩:=a;obtain⟨b,g1,g2⟩:=aBb e2 g;have j:P.underlying T=some .string:=by
  unfold gY at d
  split at d
  ·assumption
  ·simp at d
 refine⟨.int .u8 b.toNat,?_,by simp[ar,aw,g2],by simp[aB]⟩;simp only[dg,e,e1,c];refine eh ?_;simp[Instr.index,asIntOf,cy j,i,g1]
theorem SC{S D:db}{x:c9}{k k0:em}{n:Int}(b:o.op= .convert S D x)(e:∃d,P.underlying S=some d)(c:P.underlying D=some (.int k))(hx:ρ x= .p (.int k0 n)):
 bh P o ρ base {v:=.p (.int k (k.wrap n))}:=by
 refine bh.same fun H w aa ah β i h g _=>?_;have a:=(g x (by simp[b,gi])).1;rw[hx]at a;simp only[ar,aw]at a;obtain⟨d,f⟩:=e;refine⟨.int k (k.wrap n),?_,by simp[ar,aw],by simp[aB]⟩;simp only[dg,b,a];refine eh ?_;simp[convert,cy f,cy c,Conv.intToInt]
theorem SB{S D:db}{x:c9}{s:List Nat}(b:o.op= .convert S D x)(e:∃d,P.underlying S=some d)(c:P.underlying D=some .string)(hx:ρ x= .p (.str s)):
 bh P o ρ base {v:=.p (.str s)}:=by
 refine bh.same fun H w aa ah β i h g _=>?_;have a:=(g x (by simp[b,gi])).1;rw[hx]at a;simp only[ar,aw]at a;obtain⟨bs,e1,e2⟩:=a;obtain⟨d,f⟩:=e;refine⟨.string bs,?_,by simp only[ar,aw];exact⟨bs,rfl,e2⟩,by simp[aB]⟩;simp only[dg,b,e1];refine eh ?_;simp only[convert,g8,cy f,cy c,g7];cases d<;>simp
theorem Tt{b al ai off len:Nat}{k:AK}{d:List AV}{v:c6}(h:ar P w aa β H (.sl b al ai off len) v)(j:H[b]?=some (.arr k al ai d)):∃a c,v=.slice a len c:=by
 simp only[ar,bI,bO]at h;obtain⟨f,g,i⟩:=h.2 k d j
 by_cases e:c8 k d
 ·rw[g e];have:len=0:=by rw[e.2]at f;simp at f;omega
  subst this;exact⟨_,_,rfl⟩
 ·exact⟨_,_,i e⟩
theorem Ay:∀{b:List (PV×PV)}{a:List MapEntry},cC P w aa b a->a.length=b.length
 |[],a,h=>by simp only[cC]at h;subst h;rfl
 |(k,v)::r,a,h=>by
  simp only[cC]at h;obtain⟨e,rest,rfl,d,f,c⟩:=h;simp[Ay c]
theorem azJ{c:Call}{x:c9}{n:Nat}{aj:List (Nat×Obj)}{H0:Heap}(F:o.op= .call c)(hc:c.callee= .builtin .len)(D:c.args.toList=[x])(hl:lenOf H0 (ρ x)=some (n,aj))(d:gI P (c.argTypes.getD 0 0) (ρ x)=true)(N:0<c.argTypes.size):
 bh P o ρ base {v:=.p (.int .i64 n),aj}/\(∀p∈aj,H0[p.1]?=some p.2):=by
 have t:x∈o.op.operands:=by
  rw[F];simp only[gi,Call.operands,hc];simp;rw[<-b0,D];simp
 have I:c.args=#[x]:=by apply b1;simpa using D
 have m:c.argTypes[0]?=some (c.argTypes.getD 0 0):=by simp[ck,N]
 have q:∀{H:Heap}{w:da}{aa:Nat->Prop}{β:Bd}{l:c9->c6},((e7 c.argTypes o.type #[l x]).run P w= .ok (goInt n) w)->
  ∃C,(dg l o).run P w=.ok (.value C) w/\ar P w aa β H (.p (.int .i64 n)) C/\aB (aH H) (.p (.int .i64 n)):=by
  intro H w aa β l K;refine⟨goInt n,?_,by simp[ar,aw,goInt],by simp[aB]⟩;simp only[dg,F,resolve,hc,I];simp[invoke,builtin,K]
 have M:∀T:db,gY P T=true->P.underlying T=some .string:=by
  intro T h;unfold gY at h
  split at h
  ·assumption
  ·simp at h
 generalize Q:c.argTypes.getD 0 0=T at*;unfold lenOf at hl
 split at hl
 ·rename_i s hx;simp at hl;obtain⟨rfl,rfl⟩:=hl;rw[hx]at d;simp only[gI]at d;refine⟨bh.same fun H w aa ah β l u i _=>q ?_,by simp⟩;have g:=(i x t).1;rw[hx]at g;simp only[ar,aw]at g;obtain⟨bs,e1,e2⟩:=g;have hs:s.length=bs.size:=by rw[e2];simp
  simp[e7,m,cy (M _ d),e1,hs]
 ·rename_i hx;simp at hl;obtain⟨rfl,rfl⟩:=hl;rw[hx]at d;refine⟨bh.same fun H w aa ah β l u i _=>q ?_,by simp⟩;have g:=(i x t).1;rw[hx]at g;simp only[ar,aw]at g;simp only[gI]at d
  split at d
  ·rename_i e j;simp[e7,m,cy j,g]
  ·simp at d
 ·rename_i hx;simp at hl;obtain⟨rfl,rfl⟩:=hl;rw[hx]at d;refine⟨bh.same fun H w aa ah β l u i _=>q ?_,by simp⟩;have g:=(i x t).1;rw[hx]at g;simp only[ar,aw]at g;simp only[gI]at d
  split at d
  ·rename_i k e j;simp[e7,m,cy j,g]
  ·simp at d
 ·rename_i f y hx;simp at hl;obtain⟨rfl,rfl⟩:=hl;rw[hx]at d;refine⟨bh.same fun H w aa ah β l u i _=>q ?_,by simp⟩;have g:=(i x t).1;rw[hx]at g;simp only[ar,aw]at g;obtain⟨ak,off,cap,ai,G,k1,k2,k3,k4,k5,sp,L,k6⟩:=g;simp only[gI]at d
  split at d
  ·rename_i e j;simp[e7,m,cy j,k6]
  ·simp at d
 ·rename_i y hx;simp at hl;obtain⟨rfl,rfl⟩:=hl;rw[hx]at d;refine⟨bh.same fun H w aa ah β l u i _=>q ?_,by simp⟩;have g:=(i x t).1;rw[hx]at g;simp only[ar,aw]at g;simp only[gI]at d
  split at d
  ·rename_i e j;rcases g with⟨rfl,k6⟩|⟨ak,off,cap,ai,G,k1,k2,k3,k5,sp,L,k6⟩
   ·simp[e7,m,cy j,k6]
   ·simp[e7,m,cy j,k6]
  ·simp at d
 ·rename_i y hx;simp at hl;obtain⟨rfl,rfl⟩:=hl;rw[hx]at d;refine⟨bh.same fun H w aa ah β l u i _=>q ?_,by simp⟩;have g:=(i x t).1;rw[hx]at g;simp only[ar,aw]at g;obtain⟨r,z,clock,k1,k2,k3,k4⟩:=g;simp only[gI]at d
  split at d
  ·rename_i k e j;have:=Ay k3;have A:(getObj r).run P w=.ok (.map z clock) w:=by simp[getObj,hb,k2]
   simp at this;simp[e7,m,cy j,k4,A,this]
  ·simp at d
 ·rename_i b al ai off len hx
  split at hl
  case h_2=>simp at hl
  rename_i k R O y B
  split at hl
  case isFalse=>simp at hl
  rename_i J;obtain⟨rfl,rfl⟩:=J;simp at hl;obtain⟨rfl,rfl⟩:=hl;rw[hx]at d;refine⟨bh.same fun H w aa ah β l u i aj=>q ?_,by simpa using B⟩;have g:=(i x t).1;rw[hx]at g;obtain⟨a,cp,e1⟩:=Tt g (by simpa using aj);simp only[gI]at d
  split at d
  ·rename_i e j;simp[e7,m,cy j,e1]
  ·simp at d
 ·rename_i b hx
  split at hl
  case h_2=>simp at hl
  rename_i fz y B;simp at hl;obtain⟨rfl,rfl⟩:=hl;rw[hx]at d;refine⟨bh.same fun H w aa ah β l u i aj=>q ?_,by simpa using B⟩;have g:=(i x t).1;rw[hx]at g;simp only[ar,bI,bO]at g;have E:H[b]?=some (.map fz y):=by simpa using aj
  obtain⟨z,clock,k2,k3,_⟩:=u.cF b _ E;have e1:=g.2.1 ⟨_,E,trivial⟩;simp only[gI]at d
  split at d
  ·rename_i k e j;have:=Ay k3;have A:(getObj (β.ak b)).run P w=.ok (.map z clock) w:=by simp[getObj,hb,k2]
   simp at this;simp[e7,m,cy j,e1,A,this]
  ·simp at d
 ·simp at hl
end
section
variable{P:dk}{w:da}{aa ah:Nat->Prop}{β:Bd}{H:Heap}
variable{o:Oper}{ρ:c9->AV}{base:Nat}
theorem Jo:∀(a:List c6)(off j:Nat)(cells:Array c6),off+j+a.length<=cells.size->
 ((a.zipIdx j).foldl (fun cs(p:c6×Nat)=>cs.setIfInBounds (off+p.2) p.1) cells).toList=cells.toList.take (off+j)++a++cells.toList.drop (off+j+a.length)
 |[],off,j,cells,_=>by simp
 |x::a,off,j,cells,h=>by
  simp only[List.zipIdx_cons,List.foldl_cons];rw[Jo a off (j+1) _ (by simp at h⊢;omega)];simp only[Array.toList_setIfInBounds,hV];have d:off+j<cells.toList.length:=by simp at h⊢;omega
  rw[show off+(j+1)=off+j+1 by omega];have b:(cells.toList.set (off+j) x).take (off+j+1)=cells.toList.take (off+j)++[x]:=by
   rw[List.take_succ_eq_append_getElem (by simpa using d)];rw[List.take_set_of_le (h4 _)];simp
  have c:(cells.toList.set (off+j) x).drop (off+j+1+a.length)=cells.toList.drop (off+j+(a.length+1)):=by
   rw[List.drop_set_of_lt (by omega)];congr 1;omega
  rw[b,c];simp
theorem Rt{a c post b:List c6}(h:b.length=c.length):((a++c++post).take a.length++b++(a++c++post).drop (a.length+b.length))=a++b++post:=by
 rw[h];simp
theorem Aw{l:List Nat}{place:Nat->Option (Nat×Nat)}(s:∀i n,l[i]?=some n->place i=some ((l.take i).sum,n)):
 ∀{f:List (Nat×AV)}{j:List (Nat×c6)}{fs:List AV}{e:List (List c6)}{cells:Array c6},j.map i3=f.map i3->(∀i:Nat,ar P w aa β H (((f[i]?).map i2).getD (.p .undef)) (((j[i]?).map i2).getD undef))->
  ln P l f->bH P w aa β H l fs e->cells.toList=e.flatten->
  ∃g m,ge place cells j=some g/\bH P w aa β H l (gX fs f) m/\g.toList=m.flatten
 |[],[],fs,e,cells,_,_,_,h,hc=>⟨cells,e,rfl,h,hc⟩
 |[],_::_,_,_,_,b,_,_,_,_=>by simp at b
 |_::_,[],_,_,_,b,_,_,_,_=>by simp at b
 |(i,a)::f,(d,v)::j,fs,e,cells,b,t,o,h,hc=>by
  simp only[h2,List.cons.injEq]at b;obtain⟨rfl,b⟩:=b;simp only[ln]at o;obtain⟨⟨n,q,hs,B⟩,o⟩:=o;have G:ar P w aa β H a v:=by simpa using t 0
  have y:=fun k=>t (k+1);simp only[hO]at y;have L:=wx h;have K:d<l.length:=(hp.1 q).1;have C:d<fs.length:=by omega
  obtain⟨pre,c,post,e1,e2,e3,e4,e5,A⟩:=rZ h (hy C);have J:c.length=n:=by rw[q]at e4;simpa using e4.symm
  have u:=wV G B;have x:v.cells.toList.length=n:=by rw[(ng u).1,hs]
  obtain⟨m,k1,k2⟩:=A a _ u (by omega);have F:cells.size=pre.length+c.length+post.length:=by
   have:=congrArg hJ (hc.trans e1);simp at this;omega
  have I:v.cells.size=n:=by simpa using x
  obtain⟨nA,r⟩:∃nA,(v.cells.zipIdx.foldl (fun cs(p:c6×Nat)=>cs.setIfInBounds ((l.take d).sum+p.2) p.1) cells)=nA:=⟨_,rfl⟩
  have D:nA.toList=m.flatten:=by
   rw[<-r,k1];have:=Jo v.cells.toList (l.take d).sum 0 cells (by rw[<-e2];simp at x⊢;omega);rw[<-cc];simp only[Array.toList_zipIdx];rw[this,hc,e1,h7,<-e2];exact Rt (by omega)
  obtain⟨g,z,g1,g2,g3⟩:=Aw s b y o k2 D;refine⟨g,z,?_,by simpa only[gX]using g2,g3⟩;have E:¬(v.cells.size≠n\/(l.take d).sum+v.cells.size>cells.size):=by
   rw[I,F,<-e2];omega
  simp only[ge,s d n q];simp only[Bool.or_eq_true,decide_eq_true_eq,E,if_false];simp only[<-r]at g1;exact g1
end
section
variable{P:dk}{w:da}{aa ah:Nat->Prop}{β:Bd}{H:Heap}
variable{o:Oper}{ρ:c9->AV}{base:Nat}
theorem Ge{α γ:Type}(f:α->Sem γ)(g:α->γ)(w:da):∀l:List α,(∀a∈l,(f a).run P w=.ok (g a) w)->(l.mapM f).run P w=.ok (l.map g) w
 |[],_=>by simp
 |a::l,h=>by
  simp only[h0,g8,h a (by simp),g7,Ge f g w l (fun b c=>h b (by simp[c])),h2];rfl
theorem QX{α γ:Type}(f:α->Sem γ)(g:α->γ)(w:da)(a:Array α)(h:∀x∈a.toList,(f x).run P w=.ok (g x) w):(a.mapM f).run P w=.ok (a.toList.map g).toArray w:=by
 rw[b3,ha,Ge f g w _ h];rfl
theorem Ij{ρc:c9->c6}{parts:Array (Nat×c9)}(h:∀p∈parts.toList,ar P w aa β H (ρ p.2) (ρc p.2)):
 ((parts.map fun(i,x)=>(i,ρc x)).toList).map i3=(parts.toList.map fun(i,x)=>(i,ρ x)).map i3/\
 ∀i:Nat,ar P w aa β H ((((parts.toList.map fun(i,x)=>(i,ρ x))[i]?).map i2).getD (.p .undef)) ((((parts.map fun(i,x)=>(i,ρc x)).toList[i]?).map i2).getD undef):=by
 refine⟨by simp[Function.comp_def],fun i=>?_⟩;simp only[ce,hU];cases a:parts.toList[i]? with
 |none=>simp[ar,aw]
 |some p=>simpa using h p (hE a)
theorem A1{S:Nat×Nat->Prop}:∀{b:List (Nat×AV)}{fs:List AV},aP S fs->(∀p∈b,aB S p.2)->aP S (gX fs b)
 |[],fs,h,_=>h
 |(i,v)::r,fs,h,a=>by
  simp only[gX];refine A1 ?_ (fun p c=>a p (by simp[c]));rw[b9]at h⊢;intro x hx;rcases hK hx with hx|rfl
  ·exact h x hx
  ·exact a (i,x) (by simp)
theorem Ik{c:Array (Nat×c9)}{p:Nat×c9}(a:p∈c.toList):p.2∈((c.toList.map (·.2)).toArray:Array c9):=by
 simp;exact⟨p.1,by simpa using a⟩
theorem UZ{T u:db}{z:PV}{l:List Nat}{c:Array (Nat×c9)}(t:o.op= .build T c)(hk:kindOf P T= .agg u)(U:cK P T=some z)(hl:dH P u=some l)(hs:aL z= .agg u)
 (O:ln P l (c.toList.map fun(i,x)=>(i,ρ x))):bh P o ρ base {v:=gN u (gX ((cE z).map .p) (c.toList.map fun(i,x)=>(i,ρ x)))}:=by
 obtain⟨i,ad,K,z2,z3,z4⟩:=n6 U;refine bh.same fun H w aa ah β m ai V _=>?_;have F:∀p∈c.toList,ar P w aa β H (ρ p.2) (m p.2)/\aB (aH H) (ρ p.2):=fun p g=>V p.2 (by rw[t];exact Ik g);obtain⟨X,Y⟩:=Ij (ρ:=ρ) (ρc:=m) (parts:=c) (fun p g=>(F p g).1);have G:=z3 w aa;obtain⟨fs,rfl⟩:∃fs,z=.st u fs:=by cases z<;>simp[aL]at hs;subst hs;exact⟨_,rfl⟩
 simp only[aV]at G;obtain⟨W,ae,q1,Z,ab⟩:=G;rw[hl]at q1;cases q1
 have D:∀y:Nat->Option (Nat×Nat),(∀i n,l[i]?=some n->y i=some ((l.take i).sum,n))->
  (∀cells,ge y ad.cells (c.map fun(i,x)=>(i,m x)).toList=some cells->(dg m o).run P w=.ok (.value (.agg cells)) w)->
  ∃B,(dg m o).run P w=.ok (.value B) w/\ar P w aa β H (gN u (gX ((cE (.st u fs)).map .p) (c.toList.map fun(i,x)=>(i,ρ x)))) B/\
   aB (aH H) (gN u (gX ((cE (.st u fs)).map .p) (c.toList.map fun(i,x)=>(i,ρ x)))):=by
  intro y Q S;obtain⟨L,M,g1,g2,g3⟩:=Aw Q X Y O (mZ.2 Z) ab;refine⟨.agg L,S _ g1,?_,Ab (A1 (iM _ _) ?_)⟩
  ·rw[VK];simp only[ar];exact⟨l,M,hl,g2,by rw[<-g3]⟩
  ·intro p g;simp only[h3]at g;obtain⟨q,hq,rfl⟩:=g;exact(F q hq).2
 have k:=hk;unfold kindOf at k
 split at k
 ·rename_i a d;have aI:fZ P T=some (u,a.size):=by unfold fZ;rw[hk,d]
  obtain⟨af,W,s1,s2,A,s,ac,I⟩:=tR aI;rw[d]at s1;cases s1;rw[hl]at s;cases s;have R:(a.mapM fun f=>(do pure (f.offset,<-sizeOf f.type):Sem (Nat×Nat))).run P w=.ok (a.toList.map fun f:Field=>(f.offset,P.cellsOf f.type)).toArray w:=by
   refine QX _ _ w _ (fun f hf=>?_);obtain⟨j,r,rfl⟩:=List.mem_iff_getElem.1 hf;obtain⟨C,g1,g2,g3,g4,g5⟩:=I j (by simpa using r);have:a[j]'(by simpa using r)=C:=by
    have E:a[j]?=some (a[j]'(by simpa using r)):=Array.getElem?_eq_getElem (by simpa using r);rw[g1]at E;exact(i1 E).symm
   simp only[cb,this];simp[J g4]
  refine D (fun i=>(a.toList.map fun f:Field=>(f.offset,P.cellsOf f.type)).toArray[i]?) ?_ (fun cells hc=>?_)
  ·intro i n b;have hi:i<a.size:=by rw[<-ac];exact(hp.1 b).1
   obtain⟨C,g1,g2,g3,g4,g5⟩:=I i hi;rw[b]at g3;simp only[List.getElem?_toArray,hU,b5,g1];simp[g2,i1 g3]
  ·simp only[dg,t];refine eh ?_;simp only[gg,g8,rM K z2,g7,cy d,R,hc,g9]
 ·rename_i n e d;have N:gM P T=some (u,n):=by unfold gM;rw[hk,d]
  obtain⟨e',s1,s2,A,s⟩:=rU N;rw[d]at s1;cases s1;rw[hl]at A;cases A;refine D (fun i=>some (i*P.cellsOf e,P.cellsOf e)) ?_ (fun cells hc=>?_)
  ·intro i aj b;rw[hA]at b
   split at b
   ·rename_i ag;simp at b;subst b;rw[hw,h5 (by omega),hv]
   ·simp at b
  ·simp only[dg,t];refine eh ?_;simp only[gg,g8,rM K z2,g7,cy d,J s,hc,g9]
 ·split at k<;>simp at k
 ·simp at k
where
 J {P:dk} {w:da} {T:db} (h:0<P.cellsOf T):(sizeOf T).run P w=.ok (P.cellsOf T) w:=by
  cases hi:P.info? T with
  |none=>simp[gt,hi]at h
  |some i=>simp[sizeOf,typeInfo,hi,gt]
theorem wN(a:Array c6)(n:Nat)(_h:0<a.size):((bv (n*a.size)).map (a[·% a.size]!)).toList=(hr n a.toList).flatten:=by
 simp only[ce,Array.toList_range]
 induction n with
 |zero=>simp
 |succ n c=>
  rw[Nat.succ_mul,List.range_add,List.map_append,c,List.replicate_succ',hS];congr 1;simp only[List.map_map,hB,List.flatten_nil,hZ];refine List.ext_getElem (by simp) (fun i b d=>?_);simp at b;simp[Nat.mul_add_mod_self_right,Nat.mod_eq_of_lt b,b,getElem!_pos]
theorem tS{z:PV}{a:List c6}(h:aV P w aa z a):∀n:Nat,Row P w aa β H a.length (hr n (.p z)) (hr n a)
 |0=>gR.2 rfl
 |n+1=>by
  rw[hR,hR,pB];exact⟨a,_,rfl,by simpa only[bf]using h,rfl,tS h n⟩
theorem wW(d:bQ P w aa β H ah){b:Nat}(c:H[b]?=some .hole){cells:Array c6}{T:db}{k:AK}{ai cap:Nat}{a:List AV}{e:List (List c6)}{rest:List c6}(f:k≠ .frozen)(m:¬c8 k a)
 (n:Row P w aa β H ai a e)(g:aP (aH H) a)(hc:cells.toList=e.flatten++rest)(o:cells.size=cap*ai)(l:a.length<=cap)(j:k=.exact->cap=a.length)(p:k=.bytes->T=Gl.u8):
 bU P ah aa w β H aa {w with heap:=w.heap.push (.cells cells T)} (β.at b w.heap.size cap) (H.set b (.arr k 0 ai a))/\
 ar P {w with heap:=w.heap.push (.cells cells T)} aa (β.at b w.heap.size cap) (H.set b (.arr k 0 ai a)) (.sl b 0 ai 0 a.length) (.slice (some ⟨w.heap.size,0,none⟩) a.length cap):=by
 have aI:=xe (β:=β) c (.arr k 0 ai a) w.heap.size cap;have aj:∀y,aH H y->aH (H.set b (.arr k 0 ai a)) y:=lA c (fun _ h=>h.elim);have i:=(hp.1 c).1;refine⟨rO (cap:=cap) d c (ob:=.cells cells T)
  (.inr ⟨cells,T,e,rest,by simp[Bd.at],bH.mono (fun _ x=>x) (fun k hk=>tZ _ _ (d.bR k hk)) aI _ _ _ g n,hc,by simp[Bd.at,o],by simpa[Bd.at]using l,by simpa[Bd.at]using j,by
   unfold cB;rw[if_neg (by simpa using f)];simp only[Bd.at,if_true];exact⟨fun h=>h6 _ (d.bR _ h),fun h=>h6 _ (d.dT _ h)⟩,(fun h=>(f h).elim),p⟩) (aP.mono aj _ g),?_⟩
 simp only[ar,bI,bO];refine⟨rfl,fun r q hl=>?_⟩;unfold ez at hl;rw[ht i]at hl;cases hl;exact⟨by omega,fun h=>(m h).elim,fun _=>by simp[Bd.at]⟩
theorem Q1{T:db}{n sz:Nat}{z:PV}{a:Array (Nat×c9)}(C:o.op= .buildSlice T n a)(b:cN P T=some sz)(X:cK P (dQ P T)=some z)(hs:bE P (aL z)=sz)(ae:n*sz<=1000000)
 (Q:ln P (hr n sz) (a.toList.map fun(i,x)=>(i,ρ x))):
 bh P o ρ base {v:=.sl base 0 sz 0 n,aS:=[.arr .exact 0 sz (gX (hr n (.p z)) (a.toList.map fun(i,x)=>(i,ρ x)))]}:=by
 obtain⟨e,ag,b⟩:=jH b;obtain⟨i,f,I,z2,z3,z4⟩:=n6 X;rw[b.ph]at I;intro H w aa ah β t R Z _ N;have B:H[base]?=some .hole:=by simpa using N 0 (by simp)
 have D:∀p∈a.toList,ar P w aa β H (ρ p.2) (t p.2)/\aB (aH H) (ρ p.2):=fun p d=>Z p.2 (by rw[C];exact Ik d);obtain⟨ab,ac⟩:=Ij (ρ:=ρ) (ρc:=t) (parts:=a) (fun p d=>(D p d).1);have F:=z3 w aa;have s:f.cells.size=sz:=by have:=(mW F).1;simp at this;omega
 have r:=tS (β:=β) (H:=H) F n;have Y:f.cells.toList.length=sz:=by simpa using s
 rw[Y]at r;obtain⟨y,m⟩:∃c,c=(bv (n*sz)).map (f.cells[·% f.cells.size]!):=⟨_,rfl⟩
 have O:y.toList=(hr n f.cells.toList).flatten:=by
  rw[m,<-s];exact wN _ _ (by rw[s];exact b.pos)
 have U:bH P w aa β H (hr n sz) (hr n (.p z)) (hr n f.cells.toList):=by
  unfold Row at r;simpa using r
 obtain⟨u,J,g1,g2,g3⟩:=Aw (place:=fun i=>some (i*sz,sz)) (by
  intro i af j;rw[hA]at j
  split at j
  ·rename_i ad;simp at j;subst j;rw[hw,h5 (by omega),hv]
  ·simp at j) ab ac Q U O
 have l:(gX (hr n (.p z)) (a.toList.map fun(i,x)=>(i,ρ x))).length=n:=by
  have:=(wx g2).2.1;simpa using this
 have E:Row P w aa β H sz (gX (hr n (.p z)) (a.toList.map fun(i,x)=>(i,ρ x))) J:=by unfold Row;rw[l];exact g2
 have S:aP (aH H) (gX (hr n (.p z)) (a.toList.map fun(i,x)=>(i,ρ x))):=by
  refine A1 ?_ ?_
  ·rw[b9];intro v W;rw[hN W];simp[aB]
  ·intro p d;simp only[h3]at d;obtain⟨q,hq,rfl⟩:=d;exact(D q hq).2
 have M:u.size=n*sz:=by
  have A:=(fA E).2;rw[l,<-g3]at A;simpa using A
 have V:(dg t o).run P w=.ok (.value (.slice (some ⟨w.heap.size,0,none⟩) n n)) {w with heap:=w.heap.push (.cells u e)}:=by
  simp only[dg,C];have K:¬(n*sz>2^24):=by omega
  have L:n*sz=0->(bv (n*sz)).map ((#[]:Array c6)[·% (#[]:Array c6).size]!)=y:=by
   intro g;rw[m,g];simp
  refine tP ?_;simp only[Instr.buildSlice,g8,cy b.fT,g7,b.run,if_neg K]
  by_cases g:n*sz=0
  ·rw[if_pos g];simp only[g8,g9,g7,L g,g1,newRow,ed]
  ·rw[if_neg g];simp only[g8,g9,g7,rM I z2,<-m,g1,newRow,ed]
 obtain⟨q1,G⟩:=wW (T:=e) (k:=.exact) R B (by simp) (by simp[c8,AK.gr]) E S (rest:=[]) (by simpa using g3) (by rw[M]) (by omega:_<=n) (fun _=>l.symm) (fun h=>by cases h);rw[l]at G;exact⟨_,_,_,_,aa,V,.inl rfl,q1,G,by
  simp only[aB,kX];exact⟨_,ht (hp.1 B).1,h4 _⟩⟩
theorem Rb{T:db}{lo q:c9}{sz:Nat}{z:PV}{l:Int}(t:o.op= .makeSlice T lo q)(a:cN P T=some sz)(W:cK P (dQ P T)=some z)(hl:ρ lo= .p (.int .i64 l))(hc:ρ q= .p (.int .i64 l))
 (hs:bE P (aL z)=sz)(b:0<=l)(L:l<=cT):bh P o ρ base {v:=.sl base 0 sz 0 l.toNat,aS:=[.arr .exact 0 sz (hr l.toNat (.p z))]}:=by
 obtain⟨e,d,a⟩:=jH a;obtain⟨i,g,D,z2,z3,z4⟩:=n6 W;rw[a.ph]at D;intro H w aa ah β Y N B _ K;have u:H[base]?=some .hole:=by simpa using K 0 (by simp)
 have r:=(B lo (by simp[t,gi])).1;have j:=(B q (by simp[t,gi])).1;rw[hl]at r;rw[hc]at j;simp only[ar,aw]at r j;have A:=z3 w aa;have m:g.cells.size=sz:=by have:=(mW A).1;simp at this;omega
 obtain⟨n,rfl⟩:=Int.eq_ofNat_of_zero_le b;have y:=tS (β:=β) (H:=H) A n;have X:g.cells.toList.length=sz:=by simpa using m
 rw[X]at y;obtain⟨f,s⟩:∃c,c=(bv (n*sz)).map (g.cells[·% g.cells.size]!):=⟨_,rfl⟩
 have x:f.toList=(hr n g.cells.toList).flatten:=by
  rw[s,<-m];exact wN _ _ (by rw[m];exact a.pos)
 have M:n<=1073741824:=by unfold cT at L;omega
 have E:d.bytes*n<=32768*1073741824:=h9 (by have:=a.bytes;omega) M;have O:(dg Y o).run P w=.ok (.value (.slice (some ⟨w.heap.size,0,none⟩) n n)) {w with heap:=w.heap.push (.cells f e)}:=by
  simp only[dg,t,r,j];have V:IntKind.i64.wrap (n:Int)=n:=IntWalk.i64_in _ (by omega);have Q:¬((n:Int)<0):=by omega
  have R:¬((d.bytes:Int)*n>2^48):=by
   intro J;have j:d.bytes*n<=35184372088832:=E;have Z:((d.bytes*n:Nat):Int)>281474976710656:=by rw[Int.natCast_mul];exact J
   omega
  have F:n*sz=0->(bv (n*sz)).map ((#[]:Array c6)[·% (#[]:Array c6).size]!)=f:=by
   intro b;rw[s,b];simp
  have S:(typeInfo e).run P w=.ok d w:=by simp[typeInfo,a.info]
  have G:((decide ((n:Int)<0)||decide ((d.bytes:Int)*n>2^48))||decide ((n:Int)<0)||decide ((n:Int)>n))=false:=by
   simp only[Q,R,decide_false,Bool.or_false,Bool.false_or];simp
  refine tP ?_;simp only[Instr.makeSlice,g8,cy a.fT,g7,asInt,asIntOf,g9,S,V];rw[if_neg (by simpa using G)];simp only[g8,run_askRoom,g7,a.run,Int.toNat_natCast]
  by_cases b:n*sz=0
  ·rw[if_pos b];simp only[g8,g9,g7,F b,newRow,ed]
  ·rw[if_neg b];simp only[g8,g9,g7,rM D z2,<-s,newRow,ed]
 have I:f.size=n*sz:=by
  have:=congrArg hJ x;simp at this;rw[this];simp[m]
 obtain⟨q1,C⟩:=wW (T:=e) (k:=.exact) N u (cells:=f) (cap:=n) (by simp) (by simp[c8,AK.gr]) y (by
  rw[b9];intro v U;rw[hN U];simp[aB]) (rest:=[]) (by simpa using x) I (by simp) (fun _=>by simp) (fun h=>by cases h)
 simp only[List.length_replicate]at C;exact⟨_,_,_,_,aa,O,.inl rfl,q1,C,by
  simp only[aB,kX];exact⟨_,ht (hp.1 u).1,h4 _⟩⟩
end
section
variable{P:dk}{w:da}{aa ah:Nat->Prop}{β:Bd}{H:Heap}
variable{o:Oper}{ρ:c9->AV}{base:Nat}
theorem jK{x:Option c9}{d:Nat}{R:Nat->Prop}(h:fY (x.map ρ) d R):
 ∃n,R n/\((x=none/\n=d)\/∃y k,x=some y/\ρ y=.p (.int k n)):=by
 cases x with
 |none=>exact⟨d,h,.inl ⟨rfl,rfl⟩⟩
 |some y=>
  simp only[iz,fY]at h
  split at h
  ·rename_i hx;cases hx
  ·rename_i k i hx;simp at hx;obtain⟨a,h⟩:=h;refine⟨i.toNat,h,.inr ⟨y,k,rfl,?_⟩⟩;rw[hx,Int.toNat_of_nonneg a]
  ·exact h.elim
theorem rB{lo hi:Option c9}{ρc:c9->c6}{b:Bool}{len cap d h l:Nat}(m:d=len)(n:(hi=none/\h=d)\/∃y k,hi=some y/\ρ y= .p (.int k h))(hl:(lo=none/\l=0)\/∃y k,lo=some y/\ρ y= .p (.int k l))
 (f:h<=cap)(g:l<=h)(e:∀y,(hi=some y\/lo=some y)->ar P w aa β H (ρ y) (ρc y)):(fm b len cap (lo.map ρc) (hi.map ρc) none).run P w=.ok (l,h,cap) w:=by
 subst m;rcases n with⟨rfl,rfl⟩|⟨y,k,rfl,i⟩<;>rcases hl with⟨rfl,rfl⟩|⟨z,o,rfl,j⟩
 ·simp[fm]
 ·have c:=e z (.inr rfl);rw[j]at c;simp only[ar,aw]at c;simp[fm,c,ga,asIntOf,g]
 ·have a:=e y (.inl rfl);rw[i]at a;simp only[ar,aw]at a;simp[fm,a,ga,asIntOf,f]
 ·have a:=e y (.inl rfl);rw[i]at a;simp only[ar,aw]at a;have c:=e z (.inr rfl);rw[j]at c;simp only[ar,aw]at c;simp[fm,a,c,ga,asIntOf,f,g]
theorem ru{T e:db}(b:P.underlying T=some (.slice e))(x:c6)(lo hi a:Option c6)(w:da):(gc T x lo hi a).run P w=(fv T x lo hi a).run P w:=by
 simp only[gc,g8,cy b,g7]
theorem Rp{T:db}(b:P.underlying T=some .string)(x:c6)(lo hi a:Option c6)(w:da):(gc T x lo hi a).run P w=(fv T x lo hi a).run P w:=by
 simp only[gc,g8,cy b,g7]
theorem ot{T:db}{x y:c9}{lo hi b:Option c9}(a:o.op=.slice T x lo hi b)(h:hi=some y\/lo=some y):y∈o.op.operands:=by
 rw[a];simp only[gi];rcases h with rfl|rfl<;>simp
theorem wE{T:db}(h:gY P T=true):P.underlying T=some .string:=by
 unfold gY at h
 split at h
 ·assumption
 ·simp at h
theorem tY{ai:Nat}:∀{l:List AV},dV P ai l↔∀v∈l,ad v≠.bad/\bE P (ad v)=ai
 |[]=>by simp[dV]
 |v::l=>by simp[dV,tY (l:=l)]
theorem rQ{sz ai:Nat}{a:List AV}{d:List (List c6)}(b:Row P w aa β H ai a d)(hs:dV P sz a)(g:a≠[]):ai=sz:=by
 cases a with
 |nil=>exact(g rfl).elim
 |cons v a=>
  rw[pB]at b;obtain⟨c,cs,rfl,e,f,_⟩:=b;have:=(tY.1 hs v (by simp)).2;rw[<-f,(ng e).1,this]
theorem J4{ai:Nat}{d:List PV}{e:List (List c6)}(h:bc P w aa (hr d.length ai) d e)(off len:Nat)(hl:off+len<=d.length):
 ∃a b c,e=a++b++c/\bc P w aa (hr ((d.drop off).take len).length ai) ((d.drop off).take len) b/\a.flatten.length=off*ai:=by
 have f:Row P w aa ⟨id,id⟩ [] ai (d.map .p) e:=ly.2 h;obtain⟨a,b,c,e1,e2,e3,_⟩:=jt f off len (by simpa using hl);rw[z7,ly]at e2;exact⟨a,b,c,e1,e2,e3⟩
theorem UU{T:db}{x:c9}{lo hi M:Option c9}(r:o.op= .slice T x lo hi M){H0:Heap}{K:aU->Prop}(h:nr P T H0 (ρ x) (lo.map ρ) (hi.map ρ) (M.map ρ) K):
 ∃e,K e/\bh P o ρ base e/\(∀p∈e.aj,H0[p.1]?=some p.2)/\e.aK=[]:=by
 unfold nr at h;obtain⟨ap,h⟩:=h;obtain rfl:M=none:=by cases M<;>simp_all
 have I:x∈o.op.operands:=by rw[r];simp[gi]
 split at h
 ·
  rename_i s hx;obtain⟨ae,h⟩:=h;have ab:=wE ae;obtain⟨l,h,C⟩:=jK h;obtain⟨f,h,D⟩:=jK h;obtain⟨A,B,h⟩:=h;refine⟨_,h,bh.same fun H w aa ah β n v m _=>?_,by simp,rfl⟩;have j:=(m x I).1;rw[hx]at j;simp only[ar,aw]at j;obtain⟨bs,e1,e2⟩:=j;have af:s.length=bs.size:=by rw[e2];simp
  have u:=rB (P:=P) (w:=w) (aa:=aa) (β:=β) (H:=H) (b:=false) (cap:=bs.size) (ρ:=ρ) (ρc:=n) af C D (by omega) B (fun y z=>(m y (ot r z)).1);refine⟨.string (bs.extract f l),?_,?_,by simp[aB]⟩
  ·simp only[dg,r,e1];refine eh ?_;rw[Rp ab];simp only[fv,g8,cy ab,g7,ip,Option.isSome_none];simp[u]
  ·simp only[ar,aw];refine⟨_,rfl,?_⟩;rw[e2,<-h1,<-List.map_drop,Go.Lib.extract_data,hG]
 ·
  rename_i hx;obtain⟨g,h⟩:=h;obtain⟨sz,g⟩:=ik.1 g;obtain⟨e,W,g⟩:=jH g;obtain⟨l,h,C⟩:=jK h;obtain⟨f,h,D⟩:=jK h;obtain⟨A,B,F⟩:=h;obtain rfl:l=0:=by omega
  obtain rfl:f=0:=by omega
  refine⟨_,F,bh.same fun H w aa ah β n v m _=>?_,by simp,rfl⟩;have j:=(m x I).1;rw[hx]at j;simp only[ar,aw]at j;have u:=rB (P:=P) (w:=w) (aa:=aa) (β:=β) (H:=H) (b:=true) (cap:=0) (ρ:=ρ) (ρc:=n) (len:=0) (d:=0) rfl C D (by omega) B (fun y z=>(m y (ot r z)).1);refine⟨.slice none 0 0,?_,by rw[hx];simp[ar,aw],by rw[hx];simp[aB]⟩;simp only[dg,r,j];refine eh ?_;rw[ru g.fT];simp only[fv,g8,cy g.fT,g7,ip,u,g.run];simp
 ·
  rename_i full q hx;obtain⟨l,h,C⟩:=jK h;obtain⟨f,h,D⟩:=jK h;obtain⟨A,B,h⟩:=h
  split at h
  case h_2=>exact h.elim
  rename_i sz g;obtain⟨S,h⟩:=h;obtain⟨e,W,g⟩:=jH g;refine⟨_,h,bh.same fun H w aa ah β n v m _=>?_,by simp,rfl⟩;have j:=(m x I).1;rw[hx]at j;simp only[ar,aw]at j;obtain⟨ak,off,cap,ai,X,v1,v2,v3,v4,v5,sp,U,v6⟩:=j;have V:cap≠f->sp=none:=fun h=>U.resolve_right (by omega);have u:=rB (P:=P) (w:=w) (aa:=aa) (β:=β) (H:=H) (b:=true) (cap:=cap) (ρ:=ρ) (ρc:=n) rfl C D (by omega) B (fun y z=>(m y (ot r z)).1);refine⟨.slice (some (if cap=f then⟨ak,off,sp⟩else⟨ak,off+f*sz,none⟩)) (l-f) (cap-f),?_,?_,by simp[aB]⟩
  ·simp only[dg,r,v6];refine eh ?_;rw[ru g.fT];simp only[fv,g8,cy g.fT,g7,ip,u,g.run]
   by_cases hc:cap=f
   ·simp[hc]
   ·obtain rfl:=V hc;simp[hc,jM]
  ·have G:((q.take l).drop f).length=l-f:=by simp;omega
   simp only[ar,aw,G]
   by_cases E:q=[]
   ·subst E;simp at A;subst A;obtain rfl:f=0:=by omega
    by_cases hc:cap=0
    ·exact⟨ak,off,cap,sz,[],by simp[bc],by simp,by intro i hi;simp at hi,fun _=>by simpa using hc,by simp,sp,.inr hc,by simp[hc]⟩
    ·exact⟨ak,off,cap,sz,[],by simp[bc],by simp,by intro i hi;simp at hi,fun hf=>by simp at hf;simpa using v4 hf,by simp,none,.inl rfl,by simp[hc]⟩
   ·have O:ai=sz:=rQ (w:=w) (aa:=aa) (β:=β) (H:=H) (ly.2 v1) S (by simpa using E);subst O;obtain⟨a,b,c,e1,e2,e3⟩:=J4 v1 f (l-f) (by omega);rw[<-hG]at e2;have ao:(q.drop f).take (l-f)=(q.take l).drop f:=by rw[hG]
    rw[G]at e2
    by_cases hc:cap=f
    ·obtain rfl:l=f:=by omega
     have N:b=[]:=by
      have:=(tQ e2).2.2;simpa using this
     subst N;refine⟨ak,off,cap-l,ai,[],by simpa using e2,fun _=>v2 E,by intro i hi;simp at hi,?_,by omega,sp,.inr (by omega),by simp[hc]⟩;intro _;omega
    ·refine⟨ak,off+f*ai,cap-f,ai,b,e2,fun _=>v2 E,?_,?_,by omega,none,.inl rfl,by simp[hc]⟩
     ·have:=rE v3 (pre:=a.flatten) (xs:=b.flatten) (post:=c.flatten) (by rw[e1];simp);rw[e3]at this;exact this
     ·intro hf;simp at hf;have:=v4 hf.1;omega
 ·
  rename_i q hx;obtain⟨l,h,C⟩:=jK h;obtain⟨f,h,D⟩:=jK h;obtain⟨A,B,h⟩:=h
  split at h
  case h_2=>exact h.elim
  rename_i sz g;obtain⟨S,h⟩:=h;obtain⟨e,W,g⟩:=jH g;refine⟨_,h,bh.same fun H w aa ah β n v m _=>?_,by simp,rfl⟩;have j:=(m x I).1;rw[hx]at j;simp only[ar,aw]at j;rcases j with⟨rfl,j⟩|⟨ak,off,cap,ai,X,v1,v2,v3,v5,sp,U,v6⟩
  ·simp at A;subst A;obtain rfl:f=0:=by omega
   have u:=rB (P:=P) (w:=w) (aa:=aa) (β:=β) (H:=H) (b:=true) (cap:=0) (ρ:=ρ) (ρc:=n) (len:=0) (d:=0) rfl C D (by omega) B (fun y z=>(m y (ot r z)).1);refine⟨.slice none 0 0,?_,by simp[ar,aw],by simp[aB]⟩;simp only[dg,r,j];refine eh ?_;rw[ru g.fT];simp only[fv,g8,cy g.fT,g7,ip,u,g.run];simp
  have V:cap≠f->sp=none:=fun h=>U.resolve_right (by omega);have u:=rB (P:=P) (w:=w) (aa:=aa) (β:=β) (H:=H) (b:=true) (cap:=cap) (ρ:=ρ) (ρc:=n) rfl C D (by omega) B (fun y z=>(m y (ot r z)).1);refine⟨.slice (some (if cap=f then⟨ak,off,sp⟩else⟨ak,off+f*sz,none⟩)) (l-f) (cap-f),?_,?_,by simp[aB]⟩
  ·simp only[dg,r,v6];refine eh ?_;rw[ru g.fT];simp only[fv,g8,cy g.fT,g7,ip,u,g.run]
   by_cases hc:cap=f
   ·simp[hc]
   ·obtain rfl:=V hc;simp[hc,jM]
  ·have G:((q.take l).drop f).length=l-f:=by simp;omega
   simp only[ar,aw,G];right
   by_cases E:q=[]
   ·subst E;simp at A;subst A;obtain rfl:f=0:=by omega
    by_cases hc:cap=0
    ·exact⟨ak,off,cap,sz,[],by simp[bc],by simp,by intro i hi;simp at hi,by simp,sp,.inr hc,by simp[hc]⟩
    ·exact⟨ak,off,cap,sz,[],by simp[bc],by simp,by intro i hi;simp at hi,by simp,none,.inl rfl,by simp[hc]⟩
   ·have O:ai=sz:=rQ (w:=w) (aa:=aa) (β:=β) (H:=H) (ly.2 v1) S (by simpa using E);subst O;obtain⟨a,b,c,e1,e2,e3⟩:=J4 v1 f (l-f) (by omega);rw[<-hG]at e2;rw[G]at e2
    by_cases hc:cap=f
    ·obtain rfl:l=f:=by omega
     have N:b=[]:=by
      have:=(tQ e2).2.2;simpa using this
     subst N;exact⟨ak,off,cap-l,ai,[],by simpa using e2,fun _=>v2 E,by intro i hi;simp at hi,by omega,sp,.inr (by omega),by simp[hc]⟩
    ·refine⟨ak,off+f*ai,cap-f,ai,b,e2,fun _=>v2 E,?_,by omega,none,.inl rfl,by simp[hc]⟩;have:=rE v3 (pre:=a.flatten) (xs:=b.flatten) (post:=c.flatten) (by rw[e1];simp);rw[e3]at this;exact this
 ·
  rename_i b al ai off len hx
  split at h
  case h_2=>exact h.elim
  rename_i k aq an q R;obtain⟨rfl,rfl,g,L,hlen,h⟩:=h;obtain⟨l,h,C⟩:=jK h;obtain⟨f,h,D⟩:=jK h;obtain⟨A,B,F⟩:=h;obtain⟨e,W,g⟩:=jH g
  have key:∀(H:Heap)(w:da)(aa ah:Nat->Prop)(β:Bd)(n:c9->c6),bQ P w aa β H ah->(∀x∈o.op.operands,ar P w aa β H (ρ x) (n x)/\aB (aH H) (ρ x))->
   H[b]?=some (.arr k al ai q)->q.length<=β.cap b/\(dg n o).run P w=.ok (.value (.slice (some (if β.cap b-off=f then⟨β.ak b,off*ai,none⟩else⟨β.ak b,off*ai+f*ai,none⟩)) (l-f) (β.cap b-off-f))) w:=by
   intro H w aa ah β n v m t;have j:=(m x I).1;rw[hx]at j;simp only[ar,bI,bO]at j;obtain⟨_,_,j⟩:=j.2 k q t;have j:=j L;rcases v.cF b _ t with hold|⟨cs,am,X,rest,k1,k2,k3,k4,k5,k6⟩
   ·exact(L hold).elim
   have u:=rB (P:=P) (w:=w) (aa:=aa) (β:=β) (H:=H) (b:=true) (cap:=β.cap b-off) (ρ:=ρ) (ρc:=n) rfl C D (by omega) B (fun y z=>(m y (ot r z)).1);refine⟨k5,?_⟩;simp only[dg,r,j];refine eh ?_;rw[ru g.fT];simp only[fv,g8,cy g.fT,g7,ip,u,g.run]
   by_cases hc:β.cap b-off=f
   ·simp[hc]
   ·simp[hc,jM]
  split at F
  ·rename_i Y;subst Y;refine⟨_,F,bh.same fun H w aa ah β n v m aj=>?_,by simpa using R,rfl⟩;have t:H[b]?=some (.arr k al ai q):=by simpa using aj
   obtain⟨ac,J⟩:=key H w aa ah β n v m t;refine⟨_,J,?_,?_⟩
   ·simp only[ar,bI,bO];refine⟨by simp[hh],fun ag ad hl=>?_⟩;unfold ez at hl;rw[t]at hl;cases hl;exact⟨by omega,fun Q=>(L Q).elim,fun _=>by simp⟩
   ·simp only[aB];exact⟨_,t,h4 _⟩
  ·rename_i Y
   split at F
   ·rename_i Z;subst Z;refine⟨_,F,bh.same fun H w aa ah β n v m aj=>?_,by simpa using R,rfl⟩;have t:H[b]?=some (.arr k al ai q):=by simpa using aj
    obtain⟨ac,J⟩:=key H w aa ah β n v m t;refine⟨_,J,?_,by simp[aB]⟩;simp only[ar,aw]
    by_cases hc:β.cap b-off=f
    ·exact⟨β.ak b,off*ai,β.cap b-off-f,ai,[],by simp[bc],by simp,by intro i hi;simp at hi,by simp,by simp,by simp[hc]⟩
    ·exact⟨β.ak b,off*ai+f*ai,β.cap b-off-f,ai,[],by simp[bc],by simp,by intro i hi;simp at hi,by simp,by simp,by simp[hc]⟩
   ·rename_i Z;refine⟨_,F,bh.same fun H w aa ah β n v m aj=>?_,by simpa using R,rfl⟩;have t:H[b]?=some (.arr k al ai q):=by simpa using aj
    obtain⟨ac,J⟩:=key H w aa ah β n v m t;refine⟨_,J,?_,?_⟩
    ·simp only[ar,bI,bO];refine⟨by simp[hh],fun ag ad hl=>?_⟩;unfold ez at hl;rw[t]at hl;cases hl;refine⟨by omega,fun Q=>(L Q).elim,fun _=>?_⟩;have hc:¬(β.cap b-off=f):=by omega
     rw[if_neg hc,ii,Nat.sub_sub]
    ·simp only[aB];exact⟨_,t,h4 _⟩
 ·exact h.elim
theorem TK{T:db}{x:c9}{lo hi:Option c9}{d:c9}(g:o.op= .slice T x lo hi (some d)){H0:Heap}{K:aU->Prop}(h:pF P T H0 (ρ x) (lo.map ρ) (hi.map ρ) (ρ d) K):
 ∃e,K e/\bh P o ρ base e/\(∀p∈e.aj,H0[p.1]?=some p.2)/\e.aK=[]:=by
 unfold pF at h;have S:x∈o.op.operands:=by rw[g];simp[gi]
 split at h
 case h_2=>exact h.elim
 rename_i b al ai off len hx
 split at h
 case h_2=>exact h.elim
 rename_i k ag ac es V;obtain⟨rfl,rfl,c,E,hlen,X,h⟩:=h;obtain⟨i,h,Q⟩:=jK h;obtain⟨I,h,R⟩:=jK h;have J:fY ((some d).map ρ) 0 (fun m=>off+m<=es.length/\i<=m/\I<=i/\K {v:=.p .undef,aj:=[(b,.arr k al ai es)]}):=h;obtain⟨B,h,U⟩:=jK J;obtain⟨ad,C,L,M⟩:=h;obtain⟨sz,c⟩:=ik.1 c;obtain⟨e,af,c⟩:=jH c;refine⟨_,M,bh.same fun H w aa ah β f W n aj=>?_,by simpa using V,rfl⟩;have F:H[b]?=some (.arr k al ai es):=by simpa using aj
 have a:=(n x S).1;rw[hx]at a;simp only[ar,bI,bO]at a;obtain⟨_,_,a⟩:=a.2 k es F;have a:=a E;rcases W.cF b _ F with hold|⟨cs,Z,ab,rest,k1,k2,k3,k4,k5,k6⟩
 ·exact(E hold).elim
 have s:∃q,ρ d=.p (.int q B):=by
  rcases U with⟨h,_⟩|⟨y,q,A,a⟩
  ·cases h
  ·cases A;exact⟨q,a⟩
 obtain⟨q,s⟩:=s;have j:=(n d (by rw[g];simp[gi])).1;rw[s]at j;simp only[ar,aw]at j;have O:∃y G,hi=some y/\ρ y=.p (.int G i):=by
  rcases Q with⟨rfl,_⟩|h
  ·simp at X
  ·exact h
 obtain⟨y,G,rfl,A⟩:=O;have l:=(n y (ot g (.inl rfl))).1;rw[A]at l;simp only[ar,aw]at l;have N:(fm true len (β.cap b-off) (lo.map f) (some (f y)) (some (f d))).run P w=.ok (I,i,B) w:=by
  have D:(B:Int)<=((β.cap b-off:Nat):Int):=by omega
  rcases R with⟨rfl,rfl⟩|⟨z,ae,rfl,Y⟩
  ·simp[fm,j,l,ga,asIntOf,D,C]
  ·have u:=(n z (ot g (.inr rfl))).1;rw[Y]at u;simp only[ar,aw]at u;simp[fm,j,l,u,ga,asIntOf,D,C,L]
 have t:∃r,(gc T (f x) (lo.map f) (some (f y)) (some (f d))).run P w=.ok r w:=by
  rw[ru c.fT,a];simp only[fv,g8,cy c.fT,g7,N,c.run];exact⟨_,rfl⟩
 obtain⟨r,t⟩:=t;refine⟨r,?_,by simp only[ar,aw],by simp[aB]⟩;simp only[dg,g,iz];exact eh t
end
section
variable{P:dk}{w:da}{aa ah:Nat->Prop}{β:Bd}{H:Heap}
variable{o:Oper}{ρ:c9->AV}{base:Nat}
theorem oX{H0 H:Heap}{a:AV}{c:List AV}(h:gA H0 a=some c)(aj:∀p∈dx H0 a,H[p.1]?=some p.2):gA H a=some c:=by
 cases a with
 |sl b al ai off len=>
  simp only[gA]at h⊢;simp only[dx]at aj
  split at h
  case h_2=>simp at h
  rename_i k g f e d;rw[d]at aj;have:=aj _ (hT.2 rfl);simp only at this;rw[this];exact h
 |p v=>cases v<;>exact h
 |_=>simp[gA]at h
theorem mO{H0:Heap}{a:AV}:∀p∈dx H0 a,H0[p.1]?=some p.2:=by
 intro p b;unfold dx at b
 split at b
 all_goals first
  |(split at b
    ·rename_i o c;simp at b;subst b;exact c
    ·simp at b)
  |simp at b
theorem tN{sz m:Nat}{ak off n c:Nat}{w:da}{xs:List c6}(hl:xs.length=m*sz)(hc:gB w ak off xs):(ew sz m (.slice (some ⟨ak,off,none⟩) n c)).run P w=.ok xs.toArray w:=by
 refine ei w sz m _ n c xs hl ?_;intro j v a;rw[jM];obtain⟨b,d⟩:=hp.1 a;rw[hc j b,d]
theorem zW{sz n c:Nat}{a:Addr}{w:da}:(ew sz 0 (.slice (some a) n c)).run P w=.ok #[] w:=
 ei w sz 0 a n c [] (by simp) (fun j v b=>by simp at b)
theorem uz{sz:Nat}{a:AV}{u:List AV}{v:c6}(g:gA H a=some u)(G:bQ P w aa β H ah)(i:ar P w aa β H a v)(R:aB (aH H) a)(hs:dV P sz u):
 ∃d,Row P w aa β H sz u d/\aP (aH H) u/\e8 v=pure u.length/\
  ∀w':da,w'.heap=w.heap->∀m,m<=u.length->(ew sz m v).run P w'=.ok (d.take m).flatten.toArray w':=by
 have F:∀{f:List AV}{d:List (List c6)}(m:Nat),Row P w aa β H sz f d->m<=f.length->(d.take m).flatten.length=m*sz:=by
  intro f d m h j;obtain⟨x,y,z,e1,e2,e3,e4,e5⟩:=jt h 0 m (by omega);have hx:x=[]:=by have:=(fA e4).1;simpa using this
  have N:y.length=m:=by have:=(fA e2).1;simp at this;omega
  subst hx;have J:d.take m=y:=by rw[e1];simp[N]
  rw[J];have:=(fA e2).2;rw[this];simp[j]
 have cells:∀{ak off:Nat}{d:List (List c6)}(w':da),w'.heap=w.heap->gB w ak off d.flatten->∀m,gB w' ak off (d.take m).flatten:=by
  intro ak off d w' q hc m;have I:gB w' ak off d.flatten:=hc.same (by rw[q]);have:=rE I (pre:=[]) (xs:=(d.take m).flatten) (post:=(d.drop m).flatten) (by
   rw[List.nil_append,<-hS,List.take_append_drop])
  simpa using this
 cases a with
 |p t=>
  cases t with
  |aG=>
   simp[gA]at g;subst g;simp only[ar,aw]at i;subst i;exact⟨[],gR.2 rfl,by simp[aP],rfl,fun w' _ m j=>by simp[ew]⟩
  |bw full f=>
   simp[gA]at g;subst g;simp only[ar,aw]at i;obtain⟨ak,off,cap,ai,d,v1,v2,v3,v4,v5,sp,D,rfl⟩:=i;rcases D with rfl|rfl
   case inr=>
    obtain rfl:f=[]:=hz.1 (by omega);exact⟨[],gR.2 rfl,by simp[aP],rfl,fun w' _ m j=>by
     obtain rfl:m=0:=by simpa using j
     exact zW⟩
   have h:Row P w aa β H ai (f.map .p) d:=ly.2 v1;have o:Row P w aa β H sz (f.map .p) d:=by
    by_cases n:f.map AV.p=[]
    ·rw[n]at h⊢;rw[gR]at h⊢;exact h
    ·rw[<-rQ h hs n];exact h
   refine⟨d,o,iM _ _,by simp[e8],fun w' q m j=>?_⟩;exact tN (F m o j) (cells w' q v3 m)
  |seq f=>
   simp[gA]at g;subst g;simp only[ar,aw]at i;rcases i with⟨rfl,rfl⟩|⟨ak,off,cap,ai,d,v1,v2,v3,v5,sp,D,rfl⟩
   ·exact⟨[],gR.2 rfl,by simp[aP],rfl,fun w' _ m j=>by simp[ew]⟩
   rcases D with rfl|rfl
   case inr=>
    obtain rfl:f=[]:=hz.1 (by omega);exact⟨[],gR.2 rfl,by simp[aP],rfl,fun w' _ m j=>by
     obtain rfl:m=0:=by simpa using j
     exact zW⟩
   have h:Row P w aa β H ai (f.map .p) d:=ly.2 v1;have o:Row P w aa β H sz (f.map .p) d:=by
    by_cases n:f.map AV.p=[]
    ·rw[n]at h⊢;rw[gR]at h⊢;exact h
    ·rw[<-rQ h hs n];exact h
   refine⟨d,o,iM _ _,by simp[e8],fun w' q m j=>?_⟩;exact tN (F m o j) (cells w' q v3 m)
  |str s=>
   simp[gA]at g;subst g;simp only[ar,aw]at i;obtain⟨bs,rfl,rfl⟩:=i;have M:sz=1\/bs.data.toList=[]:=by
    cases B:bs.data.toList with
    |nil=>exact .inr rfl
    |cons a r=>
     rw[B]at hs;simp[dV,ad,aL,bE]at hs;exact .inl hs.1.symm
   have h:Row P w aa β H sz ((bs.data.toList.map (·.toNat)).map fun c=>.p (.int .u8 (c:Nat))) (bs.data.toList.map fun c=>[hj .u8 c.toNat]):=by
    rcases M with rfl|B
    ·generalize bs.data.toList=l
     induction l with
     |nil=>exact gR.2 rfl
     |cons a r E=>exact pB.2 ⟨_,_,rfl,by simp[bf,aV],rfl,E⟩
    ·rw[B];exact gR.2 rfl
   refine⟨_,h,by rw[b9];intro v i;simp at i;obtain⟨a,_,rfl⟩:=i;simp[aB],by simp[e8],fun w' _ m _=>?_⟩;have e:((bs.data.toList.map fun c=>[hj .u8 c.toNat]).take m).flatten=(bs.data.toList.take m).map fun c=>hj .u8 c.toNat:=by
    rw[<-h1];generalize bs.data.toList.take m=l
    induction l with
    |nil=>rfl
    |cons a r E=>simp[E]
   rw[e];simp only[ew,g9];congr 1;apply b1;simp[ByteArray.data_extract]
  |_=>simp[gA]at g
 |sl b al ai off len=>
  simp only[gA]at g
  split at g
  case h_2=>simp at g
  rename_i k S Q f C
  split at g
  case isFalse=>simp at g
  rename_i hc;obtain⟨rfl,rfl,hl⟩:=hc;simp at g;subst g;simp only[ar,bI,bO]at i;obtain⟨_,v2,v3⟩:=i.2 k f C;have L:((f.drop off).take len).length=len:=by simp;omega
  by_cases A:c8 k f
  ·rw[v2 A];have K:=A.2;subst K;simp at hl;obtain⟨rfl,rfl⟩:=hl;exact⟨[],gR.2 (by simp),by simp[aP],rfl,fun w' _ m j=>by simp[ew]⟩
  ·rw[v3 A];rcases G.cF b _ C with hold|⟨cs,O,d,rest,k1,k2,k3,k4,k5,k6⟩
   ·exact(A hold).elim
   obtain⟨x,y,z,e1,e2,e3,e4,e5⟩:=jt k2 off len hl;have o:Row P w aa β H sz ((f.drop off).take len) y:=by
    by_cases n:(f.drop off).take len=[]
    ·rw[n]at e2⊢;rw[gR]at e2⊢;exact e2
    ·rw[<-rQ e2 hs n];exact e2
   refine⟨y,o,?_,by rw[L];rfl,fun w' q m j=>?_⟩
   ·rw[b9];intro v i;exact b9.1 (G.refs b _ C) v (hQ (hP i))
   ·refine tN (F m o j) (cells w' q ?_ m);rw[<-e3];exact lg k1 (post:=z.flatten++rest) (by rw[k3,e1];simp)
 |_=>simp[gA]at g
theorem Tq{T X e:db}{i:dp}{f:c6}{sz:Nat}(a:pz P T sz e i)(b:ib P X=true)(y:i.zero=some f)(A:db){p:Option Addr}{sLen sCap n:Nat}{j h:Array c6}(x:c6)
 (hx:e8 x=pure n)(s:(ew sz sLen (.slice p sLen sCap)).run P w.drew=.ok j w.drew)(aS:(ew sz n x).run P w.drew=.ok h w.drew)(q:sCap<sLen+n)(g:sLen+n<=cT):
 ∃cap,sLen+n<=cap/\(e6 #[T,X] A #[.slice p sLen sCap,x]).run P w=
  .ok (.slice (some ⟨w.heap.size,0,none⟩) (sLen+n) cap) {w.drew with heap:=w.heap.push (.cells (j++h++e9 f.cells (cap-(sLen+n))) e)}:=by
 refine⟨grownCap w (sLen+n) sCap e,by simp[grownCap,Question.cut],?_⟩;have o:∃d,P.underlying X=some d/\∀k,d≠.int k:=by
  unfold ib at b
  split at b
  ·simp at b
  ·rename_i d c v;exact⟨_,v,c⟩
  ·simp at b
 obtain⟨d,c,B⟩:=o;have r:¬(sLen+n<=sCap):=by omega
 have m:¬(9223372036854775807<((sLen:Int)+(n:Int))):=by unfold cT at g;omega
 have C:fb (sLen+n) sCap*i.bytes<=281474976710656:=by
  refine growslice_fits q ?_;have:=h9 g (Nat.le_of_lt a.bytes);unfold cT at this;omega
 have l:¬(281474976710656<fb (sLen+n) sCap*i.bytes):=by omega
 have t:(sizeOf e).run P w=.ok sz w:=a.run w;have u:∀w:da,(typeInfo e).run P w=.ok i w:=fun w=>by simp[typeInfo,a.info]
 have z:∀w:da,(zeroValue e).run P w=.ok f w:=fun w=>by simp[zeroValue,typeInfo,a.info,y]
 simp[e6,cy a.fT,cy c,t,u,z,hx,r,m,l,Question.forced,s,aS,newRow,grownCap,Array.append_assoc];rfl
theorem GP{T X e:db}{i:dp}{sz:Nat}(j:pz P T sz e i)(c:ib P X=true)(t:db){g off:Nat}{sLen sCap n:Nat}{b:Array c6}{h:db}{a:List c6}(x:c6)
 (hx:e8 x=pure n)(o:w.heap[g]?=some (.cells b h (0,0)))(aS:(ew sz n x).run P w=.ok a.toArray w)(l:∀u∈a,u.oneCell'=true)(q:sLen+n<=sCap)(p:off+sLen*sz+a.length<=b.size):
 (e6 #[T,X] t #[.slice (some ⟨g,off,none⟩) sLen sCap,x]).run P w=
  .ok (.slice (some ⟨g,off,none⟩) (sLen+n) sCap) (w.setRow g (b.toList.take (off+sLen*sz)++a++b.toList.drop (off+sLen*sz+a.length)).toArray):=by
 have m:∃d,P.underlying X=some d/\∀k,d≠.int k:=by
  unfold ib at c
  split at c
  ·simp at c
  ·rename_i d f s;exact⟨_,s,f⟩
  ·simp at c
 obtain⟨d,f,v⟩:=m;have aI:=ej P g (off+sLen*sz) h a 0 b w o (by simpa using p) l;simp only[h7]at aI;have r:(sizeOf e).run P w=.ok sz w:=j.run w;simp[e6,cy j.fT,cy f,r,hx,q,aS,jM,aI]
theorem Sl{T X e:db}{i:dp}{sz:Nat}(f:pz P T sz e i)(b:ib P X=true)(m:db){p:Option Addr}{sLen sCap:Nat}(x:c6)
 (hx:e8 x=pure 0)(aS:(ew sz 0 x).run P w=.ok #[] w)(g:sLen<=sCap):
 (e6 #[T,X] m #[.slice p sLen sCap,x]).run P w=.ok (.slice p sLen sCap) w:=by
 have j:∃d,P.underlying X=some d/\∀k,d≠.int k:=by
  unfold ib at b
  split at b
  ·simp at b
  ·rename_i d c l;exact⟨_,l,c⟩
  ·simp at b
 obtain⟨d,c,n⟩:=j;have h:(sizeOf e).run P w=.ok sz w:=f.run w;cases p with
 |none=>simp[e6,cy f.fT,cy c,h,hx,g,aS]
 |some a=>simp[e6,cy f.fT,cy c,h,hx,g,aS,storeCells]
theorem bU.drew{aD:Nat->Prop}{w1 w':da}{aJ:Bd}{H':Heap}(a:w1.heap=w.heap)(b:w1.os=w.os/\w1.output=w.output)(h:bU P ah aa w1 β H aD w' aJ H'):bU P ah aa w β H aD w' aJ H':=
 ⟨h.bR,h.fresh,⟨by rw[<-a];exact h.ext.size,fun k hk=>by rw[<-a];exact h.ext.same k hk,h.ext.io.1.trans b.1,h.ext.io.2.trans b.2⟩,h.step,h.rel,h.eH,h.loop⟩
theorem GQ(z:Array c6)(n:Nat):(e9 z n).size=n*z.size:=by simp[e9]
theorem uH{ai:Nat}:∀{b:List AV}{a:List (List c6)},Row P w aa β H ai b a->∀c∈a.flatten,c.oneCell'=true
 |[],a,h=>by rw[gR]at h;subst h;simp
 |v::b,a,h=>by
  rw[pB]at h;obtain⟨c,cs,rfl,d,_,e⟩:=h;intro x hx;simp only[hB,hD]at hx;exact hx.elim (xL d x) (uH e x)
theorem Row.mono{w':da}{aD:Nat->Prop}{aJ:Bd}{H':Heap}(hI:∀k,aa k->aD k)(hs:∀k,aa k->w'.heap[k]?=w.heap[k]?)(aI:b8 β H aJ H'){ai:Nat}{a:List AV}{b:List (List c6)}(c:aP (aH H) a)
 (h:Row P w aa β H ai a b):Row P w' aD aJ H' ai a b:=bH.mono hI hs aI _ _ _ c h
theorem wF{c:Call}{s x:c9}(e:o.op= .call c)(hc:c.callee= .builtin .append)(b:c.args.toList=[s,x]){a:c9->c6}{w w':da}{v:c6}
 (h:(e6 c.argTypes o.type #[a s,a x]).run P w=.ok v w'):(dg a o).run P w=.ok (.value v) w':=by
 have d:c.args=#[s,x]:=by apply b1;simpa using b
 simp only[dg,e,resolve,hc,d];simp[invoke,builtin,h]
theorem TW{c:Call}{s x:c9}(e:o.op= .call c)(hc:c.callee= .builtin .copy)(b:c.args.toList=[s,x]){a:c9->c6}{w w':da}{v:c6}
 (h:(fl c.argTypes o.type #[a s,a x]).run P w=.ok v w'):(dg a o).run P w=.ok (.value v) w':=by
 have d:c.args=#[s,x]:=by apply b1;simpa using b
 simp only[dg,e,resolve,hc,d];simp[invoke,builtin,h]
end
end Go.au
