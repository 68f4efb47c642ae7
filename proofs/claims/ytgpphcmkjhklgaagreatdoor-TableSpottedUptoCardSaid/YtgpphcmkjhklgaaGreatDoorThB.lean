import Derived.Test.YtgpphcmkjhklgaaGreatDoorThA
import Derived.RangeFuncRecord
import Derived.RangeFuncNested
import Derived.Lib.Strings
import Derived.Laws.Append
/- Parts of a proof. -/
set_option linter.unusedSimpArgs false
set_option linter.unusedVariables false
set_option linter.unusedSectionVars false
open Array renaming replicate->bo, getElem?_eq_some_iff->bv, range->b0, mem_toList_iff->b1, ext'->b2, getD_eq_getD_getElem?->b3, mapM_eq_mapM_toList->b4, mem_of_getElem?->b5, getElem?_toList->cb, getElem_toList->cc, foldl_toList->ce, toList_map->ck, getD->cv
open Bool renaming false_eq_true->cx, and_eq_true->cy
open Go renaming run_underlying->c6, Value->c9, Operand->da, World->db, TypeId->dg, execOp->dk, Program->dl, Deferred->dp, TypeInfo->dq, Frame->dz, ResultVar->ea, Steps->eb, Machine->ec, FuncId->ed, run_newObj->ee, setRow_other->ei, run_firstCells_some->ej, run_storeCells_at->em, IntKind->en, step_lone_go->eo, setRow_size->eq, setRow_heap->ew
open Go.Builtin renaming firstCells->e6, append_->e7, len_->e8, lenOf->e9, zeroCells->fa, nextslicecap->fb, copy_->fl
open Go.Instr renaming sliceBounds->fm, slice->fv, sureAddr->fZ, sliceBound->gb, indexAt->gc, sliceAt->ge, fill->gg, build->gi
open Go.Op renaming operands->gj, unary->gm, intArith->gt, intBits->gx
open Go.Program renaming cellsOf->gy, underlying->g0, underlyingId->g7
open Go.Region renaming wanted->g8
open Go.Result renaming andThen_ok->g9
open Go.Sem renaming run_bind->ha, run_pure->hb, run_map->hd, run->he
open Go.Steps renaming one->hg, trans->hh, refl->hj
open Go.Value renaming oneCell'->hl, int->hm, cells->hn
open Go.World renaming putObj_heap_other->ho, size_alloc->hp
open List renaming getElem?_eq_some_iff->hr, replicate->ht, getElem?_set_self->hv, sum_replicate_nat->hw, take_replicate->hy, getElem?_eq_getElem->hz, length_eq_zero_iff->hA, getElem?_replicate->hB, flatten_cons->hC, append_assoc->hD, mem_append->hE, mem_of_getElem?->hF, getElem?_set_ne->hG, drop_take->hH, range'->hK, length->hL, mem_or_eq_of_mem_set->hM, getElem_append_right->hN, getElem_append_left->hO, eq_of_mem_replicate->hP, getElem?_cons_succ->hQ, mem_of_mem_take->hR, mem_of_mem_drop->hS, replicate_succ->hT, flatten_append->hU, mem_singleton->hV, getElem?_map->hW, length_cons->hX, getElem_mem->hZ, all_eq_true->h0, append_nil->h1, mapM_cons->h2, map_take->h3, map_cons->h4, mem_map->h5
open Nat renaming le_refl->h6, min_eq_left->h7, lt_irrefl->h8, add_zero->h9, add_sub_cancel_left->ih, mul_le_mul->ii, add_assoc->ik, add_mul->ip
open Option renaming isSome_iff_exists->ix, map_none->iz, bind_some->iL, map_some->i0
open Option.some renaming injEq->i1, inj->i2
open Prod renaming snd->i3, fst->i4
namespace Go.ag
set_option linter.unusedSectionVars false
variable[Gl]
section
variable{P:dl}{ah:ed->Bool}{n N:Nat}
variable{fr:dz}{k:List Item}{cs:List dz}{ops:Array Oper}{i:Nat}{r:List Nat}{ds:List dp}
theorem Uy{o:Oper}{f:da}{a:Array da}{p:Array dg}{b:Nat}{H':Heap}{v:AV}{K:St->Prop}{s:St}{ai ad:Nat->Prop}{β:Bd}{t:Array c9}{w:db}
 (l:o.op=.call {callee:=.value f,args:=a,argTypes:=p})(hf:ev s.env f=.map b)(m:iq P b s.heap (a.toList.map (ev s.env)) H' v)(x:K ⟨put o.dst v s.env,H'⟩)
 (d:cN P n ai ad β s t w)(A:iU n o=true)(j:ops[i]?=some o)(D:g8 o (yielded ops t)=true):
 kr P n N fr k cs ops ai ad w β s.heap (lone (bE fr t ds (.inRegion ops (i::r)::k)) cs w) r ds K:=by
 have e:=(om d f).1;rw[hf]at e;simp only[az,bN,bR]at e;have B:=e.2.2 m.1;obtain⟨y,z⟩:=wX d a.toList;have h:(dk (fF t) o).run P w=(Instr.yield (β.al b) (a.toList.map (fF t)).toArray).run P w:=by
  simp only[dk,l,resolve,B,Deferred.ofValue,ha,hb,g9,invoke];congr 2;exact b2 (by simp)
 have C:∀c,o.op≠.defer c:=fun c hc=>by rw[l]at hc;cases hc
 obtain⟨g,tmps,assign,body,q,u⟩:=m.2 w ad ai β _ d.heap y z;rw[q]at h;obtain⟨E,w',aI,aF,g1,g2,g3,g4⟩:=u (bE fr t ds (.inRegion ops (i::r)::k)) cs;refine⟨_,aF,aI,_,w',x,?_,d.put A g2 g3 g4,g2.fq⟩;rw[<-nP j];exact(hg (JX j D C h)).trans g1
theorem Lj(y:l6 P ah){d:Bool}{o:Oper}{K:St->Prop}{s:St}{ai ad:Nat->Prop}{β:Bd}{t:Array c9}{w:db}
 (h:jA P ah d o K s)(a:cN P n ai ad β s t w)(c:iU n o=true)(j:ops[i]?=some o)(l:g8 o (yielded ops t)=true):
 kr P n N fr k cs ops ai ad w β s.heap (lone (bE fr t ds (.inRegion ops (i::r)::k)) cs w) r ds K:=by
 have E:=Uh h;have z:fE P ah o (ev s.env) s.heap (fun e=>K (e.app o.dst s))->kr P n N fr k cs ops ai ad w β s.heap (lone (bE fr t ds (.inRegion ops (i::r)::k)) cs w) r ds K:=by
  intro h;obtain⟨e,m,hs,ak,aJ⟩:=y o _ _ _ (fun v=>rfl) h;obtain⟨nx,I,w',aI,aF,A,B,u,C,D⟩:=hs.use a.heap (fun x _=>om a x) ak (fun p F=>(aJ p F).1);exact⟨_,aF,aI,_,w',m,.one (tU j l E A B),a.put c u C D,u.fq⟩
 unfold jA at h
 split at h
 ·rename_i f args H q
  split at h
  ·rename_i g fi ca hf;exact JN q (.inr ⟨fi,ca,hf,rfl,rfl⟩) h a c j l
  ·rename_i g fi ca hf;exact JN q (.inl hf) h a c j l
  ·rename_i b hf;obtain⟨H',v,G,m⟩:=h;exact Uy q hf G m a c j l
  ·exact h.elim
 ·exact z h
theorem kr.mono{m:ec}{K a:St->Prop}{ai ad:Nat->Prop}{w:db}{β:Bd}{H:Heap}(h:kr P n N fr k cs ops ai ad w β H m r ds K)(hk:∀s,K s->a s):kr P n N fr k cs ops ai ad w β H m r ds a:=by
 obtain⟨s',aF,aI,t',w',b,c⟩:=h;exact⟨s',aF,aI,t',w',hk _ b,c⟩
theorem zx{s:St}{ai ad:Nat->Prop}{β:Bd}{t:Array c9}{w:db}(e:cN P n ai ad β s t w)(l:∀o∈ops.toList,iU n o=true)(j:Nat):
 (∀b,guardOf ops j s.env=.p (.bool b)->yielded ops t j=some b)/\(guardOf ops j s.env=.p (.aE [])->yielded ops t j=none):=by
 unfold guardOf yielded;cases k:ops[j]? with
 |none=>simp
 |some f=>
  simp only[iL];cases g:f.dst with
  |none=>simp
  |some d=>
   simp only[iL];have h:d<t.size:=by
    have:=l f (by rw[b1];exact b5 k);unfold iU at this;rw[g]at this;rw[e.size];simpa using this
   have a:=e.env d;have i:t[d]?=some (t.getD d undef):=by simp[cv,h]
   rw[i];constructor
   ·intro b c;rw[c]at a;simp only[az,aC]at a;rw[a]
   ·intro c;rw[c]at a;simp only[az,aC,bw]at a;obtain⟨xs,rfl,a⟩:=a;rw[a]
theorem Kl(f:l6 P ah){d:Bool}(x:∀o∈ops.toList,iU n o=true):∀(l:List Oper)(i:Nat){K:St->Prop}{s:St}{ai ad:Nat->Prop}{β:Bd}{t:Array c9}{w:db},
 ops.toList.drop i=l->gQ P ah d ops l K s->cN P n ai ad β s t w->
 kr P n N fr k cs ops ai ad w β s.heap (lone (bE fr t ds (.inRegion ops (hK i l.length)::k)) cs w) [] ds K
 |[],i,K,s,ai,ad,β,t,w,v,h,a=>⟨s,ad,β,t,w,h,hj _ _,a,dP.refl _ _ _ _ _ _⟩
 |o::l,i,K,s,ai,ad,β,t,w,v,h,a=>by
  have e:ops[i]?=some o:=by
   have:(ops.toList.drop i)[0]?=some o:=by rw[v];rfl
   rw[List.getElem?_drop]at this;simpa using this
  have F:ops.toList.drop (i+1)=l:=by
   rw[<-List.drop_drop,v];rfl
  have u:iU n o=true:=x o (by rw[b1];exact b5 e);have g:∀{ai ad w β H}{m:ec},kr P n N fr k cs ops ai ad w β H m (hK (i+1) l.length) ds (gQ P ah d ops l K)->kr P n N fr k cs ops ai ad w β H m [] ds K:=by
   intro ai ad w β H m E;obtain⟨s',aF,aI,L,w',A,B,C,D⟩:=E;obtain⟨s2,z,J,t2,I,g1,g2,g3,g4⟩:=Kl f x l (i+1) F A C;exact⟨s2,z,J,t2,I,g1,B.trans g2,g3,D.trans g4⟩
  rw[hX,List.range'_succ]
  have skip:gQ P ah d ops l K ⟨put o.dst (.p (.aE [])) s.env,s.heap⟩->g8 o (yielded ops t)=false->
   kr P n N fr k cs ops ai ad w β s.heap (lone (bE fr t ds (.inRegion ops (i::hK (i+1) l.length)::k)) cs w) [] ds K:=by
   intro hk G;refine g ⟨_,ad,β,_,w,hk,.one (Kw e G),a.put u (bY.refl a.heap) (by simp[az,aC,bw,undef]) (by simp[aD]),dP.refl _ _ _ _ _ _⟩
  simp only[gQ]at h
  split at h
  ·rename_i c;exact g (Lj f h a u e (by simp[g8,c]))
  ·rename_i j M c;obtain⟨g1,g2⟩:=zx a x j
   split at h
   ·rename_i b q;have y:=g1 b q
    split at h
    ·rename_i r;exact g (Lj f h a u e (by simp[g8,c,y,r]))
    ·rename_i r;exact skip h (by simp[g8,c,y,r])
   ·rename_i q;exact skip h (by simp[g8,c,g2 q])
   ·exact h.elim
theorem aEQ{H:Heap}{b v:Nat}(h:H[b]?=none\/H[b]?=some .hole):¬aH H (b,v):=by
 rintro⟨o,a,c⟩;rcases h with h|h
 ·simp only at a;rw[h]at a;cases a
 ·simp only at a;rw[h]at a;cases a;exact c
theorem qC.step{s s':St}{β:Bd}(hf:qC s s'):cj β s.heap β s'.heap:=by
 refine⟨?_,?_,?_,?_,?_⟩
 ·rintro b _ ⟨fz,t,a⟩;rcases hf.heap b _ a with h|h|⟨_,k,z,h,_⟩|⟨v,v',h,_,_⟩
  ·cases h
  ·exact⟨⟨fz,t,h⟩,rfl⟩
  ·cases h
  ·exact⟨⟨_,_,h⟩,rfl⟩
 ·rintro b _ ⟨fz,t,a⟩;rcases hf.heap b _ a with h|h|⟨_,k,z,h,_⟩|⟨v,v',_,h,_⟩
  ·cases h
  ·exact⟨⟨fz,t,h⟩,rfl⟩
  ·cases h
  ·cases h
 ·rintro b _ ⟨o,a,c⟩;rcases hf.heap b _ a with h|h|⟨_,k,z,h,_⟩|⟨v,v',_,h,_⟩
  ·rw[h]at c;exact c.elim
  ·exact⟨⟨o,h,c⟩,rfl⟩
  ·rw[h]at c;exact c.elim
  ·rw[h]at c;exact c.elim
 ·intro b aw aj k d hi a;rcases hf.heap b _ a with h|h|⟨e,_⟩|⟨v,v',_,h,_⟩
  ·cases h
  ·exact⟨k,d,h,h6 _,Iff.rfl,fun _=>⟨rfl,rfl⟩⟩
  ·exact(aEQ e hi).elim
  ·cases h
 ·rintro b _ ⟨L,a⟩;rcases hf.heap b _ a with h|h|⟨_,k,z,h,_⟩|⟨v,v',_,h,_⟩
  ·cases h
  ·exact⟨⟨L,h⟩,rfl⟩
  ·cases h
  ·cases h
section arE
variable{w:db}{ad:Nat->Prop}{β:Bd}{T:Heap}
theorem O6{b aw aj off len:Nat}(h:aw=0/\off=0/\len=0/\∃k z,T[b]?=some (.arr k 0 z [])/\k.gr=true):bN P β T (.sl b aw aj off len) (.slice none 0 0):=by
 obtain⟨rfl,rfl,rfl,k,z,c,d⟩:=h;refine⟨by simp[hl],fun f e a=>?_⟩;unfold eS at a;rw[c]at a;cases a;exact⟨by simp,fun _=>rfl,fun h=>(h ⟨d,rfl⟩).elim⟩
mutual
theorem fR.cells:∀(v:PV)(x:AV)(cs:List c9),fR T v x->aS P w ad v cs->bp P w ad β T x cs
 | .aW,x,cs,h,hc=>by
  simp only[fR]at h;rcases h with rfl|h
  ·simpa only[bp]using hc
  ·cases x<;>simp only at h<;>try exact h.elim
   simp only[aS]at hc;simp only[bp];exact⟨_,hc,O6 h⟩
 | .st u fs,x,cs,h,hc=>by
  simp only[fR]at h;rcases h with rfl|h
  ·simpa only[bp]using hc
  ·cases x<;>simp only at h<;>try exact h.elim
   obtain⟨rfl,h⟩:=h;simp only[aS]at hc;obtain⟨l,a,d,e,f⟩:=hc;simp only[bp];exact⟨l,a,d,kZ.cells l fs _ a h e,f⟩
 | .undef,x,cs,h,hc| .bool _,x,cs,h,hc| .int _ _,x,cs,h,hc| .str _,x,cs,h,hc| .dJ,x,cs,h,hc| .cw _,x,cs,h,hc| .bP _ _,x,cs,h,hc| .seq _,x,cs,h,hc| .fC,x,cs,h,hc| .fg _,x,cs,h,hc| .func _ _ _,x,cs,h,hc| .ig,x,cs,h,hc| .fV,x,cs,h,hc| .aE _,x,cs,h,hc=>by
  simp only[fR]at h;subst h;simpa only[bp]using hc
theorem kZ.cells:∀(l:List Nat)(fs:List PV)(b:List AV)(a:List (List c9)),kZ T fs b->bd P w ad l fs a->bM P w ad β T l b a
 |l,[],b,a,h,hc=>by
  simp only[kZ]at h;subst h;cases l<;>simp_all [bM,bd]
 |l,v::vs,b,a,h,hc=>by
  cases b with
  |nil=>simp[kZ]at h
  |cons g b=>
   simp only[kZ]at h;cases l with
   |nil=>simp[bd]at hc
   |cons n l=>
    simp only[bd]at hc;obtain⟨c,cs,d,e,f,i⟩:=hc;simp only[bM];exact⟨c,cs,d,fR.cells v g c h.1 e,f,kZ.cells l vs b cs h.2 i⟩
end
theorem fR.FX(v:PV)(x:AV)(y:c9)(h:fR T v x)(hc:aC P w ad v y):az P w ad β T x y:=by
 cases v
 case aW=>
  simp only[fR]at h;rcases h with rfl|h
  ·simpa only[az]using hc
  ·cases x<;>simp only at h<;>try exact h.elim
   simp only[aC]at hc;subst hc;simp only[az];exact O6 h
 case st u fs=>
  simp only[fR]at h;rcases h with rfl|h
  ·simpa only[az]using hc
  ·cases x<;>simp only at h<;>try exact h.elim
   obtain⟨rfl,h⟩:=h;simp only[aC]at hc;obtain⟨l,a,b,c,d⟩:=hc;simp only[az];exact⟨l,a,b,kZ.cells l fs _ a h c,d⟩
 all_goals simp only[fR]at h;subst h;simpa only[az]using hc
mutual
theorem Gh.cells:∀(v x:AV)(cs:List c9),Gh T v x->bp P w ad β T v cs->bp P w ad β T x cs
 | .p v,x,cs,h,hc=>by simp only[Gh]at h;simp only[bp]at hc;exact fR.cells v x cs h hc
 | .st u fs,x,cs,h,hc=>by
  simp only[Gh]at h;cases x<;>simp only at h<;>try exact h.elim
  obtain⟨rfl,h⟩:=h;simp only[bp]at hc⊢;obtain⟨l,a,d,e,f⟩:=hc;exact⟨l,a,d,mH.cells l fs _ a h e,f⟩
 | .ptr _ _,x,cs,h,hc| .b7 _ _ _ _ _,x,cs,h,hc| .sl _ _ _ _ _,x,cs,h,hc| .map _,x,cs,h,hc| .func _ _ _,x,cs,h,hc| .aE _,x,cs,h,hc=>by simp only[Gh]at h;subst h;exact hc
theorem mH.cells:∀(l:List Nat)(fs b:List AV)(a:List (List c9)),mH T fs b->bM P w ad β T l fs a->bM P w ad β T l b a
 |l,[],b,a,h,hc=>by simp only[mH]at h;subst h;exact hc
 |l,v::vs,b,a,h,hc=>by
  cases b with
  |nil=>simp[mH]at h
  |cons g b=>
   simp only[mH]at h;cases l with
   |nil=>simp[bM]at hc
   |cons n l=>
    simp only[bM]at hc⊢;obtain⟨c,cs,d,e,f,i⟩:=hc;exact⟨c,cs,d,Gh.cells v g c h.1 e,f,mH.cells l vs b cs h.2 i⟩
end
theorem Gh.FX(v x:AV)(y:c9)(h:Gh T v x)(hc:az P w ad β T v y):az P w ad β T x y:=by
 cases v
 case p v=>simp only[Gh]at h;simp only[az]at hc;exact fR.FX v x y h hc
 case st u fs=>
  simp only[Gh]at h;cases x<;>simp only at h<;>try exact h.elim
  obtain⟨rfl,h⟩:=h;simp only[az]at hc⊢;obtain⟨l,a,b,c,d⟩:=hc;exact⟨l,a,b,mH.cells l fs _ a h c,d⟩
 all_goals simp only[Gh]at h;subst h;exact hc
theorem fR.aM{v:PV}{x:AV}(h:fR T v x):aa x=ag.aM v:=by
 cases v
 case aW=>
  simp only[fR]at h;rcases h with rfl|h
  ·rfl
  ·cases x<;>simp only at h<;>first|exact h.elim|rfl
 case st u fs=>
  simp only[fR]at h;rcases h with rfl|h
  ·rfl
  ·cases x<;>simp only at h<;>try exact h.elim
   simp[aa,ag.aM,h.1]
 all_goals simp only[fR]at h;subst h;rfl
theorem Gh.aM{v x:AV}(h:Gh T v x):aa x=aa v:=by
 cases v
 case p v=>simp only[Gh]at h;exact h.aM
 case st u fs=>
  simp only[Gh]at h;cases x<;>simp only at h<;>try exact h.elim
  simp[aa,h.1]
 all_goals simp only[Gh]at h;subst h;rfl
end arE
theorem cV.fq{s s':St}{β:Bd}{ai ad:Nat->Prop}{w:db}(hf:cV N s s'):dP N ai ad w β s.heap ai ad w β s'.heap:=by
 rcases hf with rfl|hf
 ·exact dP.refl _ _ _ _ _ _
 ·exact⟨fun _ h=>h,fun _ h=>h,fun _ h=>.inl h,Ext.refl _ _ _,hf.1.step.n,fun x a⟨o,e,d⟩=>⟨o,by rw[hf.2 _ a];exact e,d⟩,fun b a⟨L,c⟩=>⟨L,by rw[hf.2 _ a];exact c⟩⟩
theorem qC.rel{s s':St}{ai ad:Nat->Prop}{β:Bd}{t:Array c9}{w:db}(hf:qC s s')(h:cN P n ai ad β s t w):cN P n ai ad β s' t w:=by
 have aK:cj β s.heap β s'.heap:=hf.step;refine⟨⟨?_,?_,hf.hrefs,h.heap.bV,h.heap.ey,h.heap.ie⟩,fun x=>?_,hf.gC,h.size⟩
 ·intro b o F;rcases hf.heap b o F with rfl|i|⟨_,k,z,rfl,hk⟩|⟨v,v',i,rfl,r⟩
  ·trivial
  rotate_left
  ·exact .inl ⟨hk,rfl⟩
  ·have d:=h.heap.cC b _ i;have g:=h.heap.refs b _ i;obtain⟨cs,T,a,c,e,l,D⟩:=d;exact⟨cs,T,a,Gh.cells _ _ _ r (bp.mono (fun _ x=>x) (fun _ _=>rfl) aK _ _ g c),e,(fun h=>by cases h),by rw[r.aM];exact D⟩
  ·have d:=h.heap.cC b o i;have g:=h.heap.refs b o i;cases o with
   |hole=>trivial
   |dead=>trivial
   |box fz t=>
    obtain⟨cs,T,a,c,e⟩:=d;exact⟨cs,T,a,bp.mono (fun _ x=>x) (fun _ _=>rfl) aK _ _ g c,e⟩
   |arr k aw aj es=>
    rcases d with d|⟨cs,T,B,rest,a,c,e⟩
    ·exact .inl d
    ·exact .inr ⟨cs,T,B,rest,a,bM.mono (fun _ x=>x) (fun _ _=>rfl) aK _ _ _ g c,e⟩
   |map fz es=>exact d
   |dx ks vs=>
    obtain⟨C,clock,a,c,e,l⟩:=d;exact⟨C,clock,a,c,bB.mono (fun _ x=>x) (fun _ _=>rfl) aK _ _ g e,l⟩
   |dA s pos=>exact d
   |loop L=>
    obtain⟨tmps,defers,fn,a,c,e,l⟩:=d;exact⟨tmps,defers,fn,a,c,fun x=>az.mono (fun _ x=>x) (fun _ _=>rfl) aK _ _ (g x) (e x),l⟩
 ·intro x y I J a c p q E f;have A:∀{z:Nat}{o:Obj},s'.heap[z]?=some o->o.live->∃o',s.heap[z]?=some o'/\o'.live:=by
   intro z o j m;rcases hf.heap z o j with rfl|j|⟨_,k,_,rfl,hk⟩|⟨v,v',j,_,_⟩
   ·exact m.elim
   ·exact⟨o,j,m⟩
   ·exact(m ⟨hk,rfl⟩).elim
   ·exact⟨_,j,trivial⟩
  obtain⟨G,a,p⟩:=A a p;obtain⟨H,c,q⟩:=A c q;exact h.heap.inj x y G H a c p q E f
 ·have u:=az.mono (fun _ x=>x) (fun _ _=>rfl) aK _ _ (h.gC x) (h.env x);rcases hf.env x with f|f|f
  ·rw[f];exact u
  ·rw[f];simp[az,aC]
  ·exact Gh.FX _ _ _ f u
theorem cV.rel{s s':St}{ai ad:Nat->Prop}{β:Bd}{t:Array c9}{w:db}(hf:cV N s s')(h:cN P n ai ad β s t w):cN P n ai ad β s' t w:=by
 rcases hf with rfl|hf
 ·exact h
 ·exact hf.1.rel h
def nu(P:dl)(fr:dz)(k:List Item)(cs:List dz)(m:ec)(t:Array c9)(ds:List dp)(w:db):bA->Prop
 | .normal=>eb P m (lone (bE fr t ds k) cs w)
 | .exit id=>∃a,exitTo id a=exitTo id k/\eb P m (lone (bE fr t ds (.code (.exit id)::a)) cs w)
 | .ret=>∃a,eb P m (lone (bE fr t ds (.code .ret::a)) cs w)
theorem nu.of_steps{m f:ec}{t:Array c9}{ds:List dp}{w:db}{e:bA}(h:eb P m f)(c:nu P fr k cs f t ds w e):nu P fr k cs m t ds w e:=by
 cases e with
 |normal=>exact h.trans c
 |exit id=>obtain⟨d,a,b⟩:=c;exact⟨d,a,h.trans b⟩
 |ret=>obtain⟨d,b⟩:=c;exact⟨d,h.trans b⟩
def mark(r:Nat):dp:={target:=.collected r,args:=#[]}
def Marks(fr:dz)(ai:Nat->Prop)(w:db)(jY aF:Nat->Prop)(w':db)(b c:List dp):Prop:=
 ∃a:List Nat,c=a.map mark++b/\a.Nodup/\(∀r∈a,w.heap.size<=r/\jY r/\¬aF r/\w'.heap[r]?=some (.deferred (some [])))/\(∀k,jY k->ai k\/k∈a)/\(fr.roundOf.isSome=true->a=[])
theorem Marks.refl(fr:dz)(ai aF:Nat->Prop)(w w':db)(ds:List dp):Marks fr ai w ai aF w' ds ds:=⟨[],rfl,List.nodup_nil,by simp,fun _ h=>.inl h,fun _=>rfl⟩
theorem Marks.trans{fr:dz}{N:Nat}{ai ad d e g f:Nat->Prop}{w w1 l:db}{β p B:Bd}{H H1 q:Heap}{ds m n:List dp}(h:Marks fr ai w d e w1 ds m)(i:dP N ai ad w β H d e w1 p H1)
 (s:Marks fr d w1 g f l m n)(j:dP N d e w1 p H1 g f l B q):Marks fr ai w g f l ds n:=by
 obtain⟨rs,rfl,t,o,u,v⟩:=h;obtain⟨A,rfl,g2,g3,g4,g5⟩:=s;refine⟨A++rs,by simp,?_,?_,?_,fun hx=>by simp[v hx,g5 hx]⟩
 ·rw[List.nodup_append];refine⟨g2,t,fun a i b y x=>?_⟩;subst x;have C:=(g3 a i).1;have D:=(bv.1 (o a y).2.2.2).1;omega
 ·intro r c;rcases hE.1 c with c|c
  ·obtain⟨k1,k2⟩:=g3 r c;exact⟨Nat.le_trans i.ext.size k1,k2⟩
  ·obtain⟨k1,k2,k3,k4⟩:=o r c;exact⟨k1,j.ey _ k2,fun hx=>(j.fresh _ hx).elim k3 (fun z=>z k2),(j.ext.same _ (.inl k2)).trans k4⟩
 ·intro k hk;rcases g4 k hk with hk|hk
  ·rcases u k hk with hk|hk
   ·exact .inl hk
   ·exact .inr (by simp[hk])
  ·exact .inr (by simp[hk])
def so(N:Nat)(fr:dz)(β:Bd)(H:Heap):Prop:=∀l,fr.roundOf=some l->∃b,b<N/\gM H b/\β.al b=l
theorem so.fq{fr:dz}{β aI:Bd}{H H':Heap}{ai ad jY aF:Nat->Prop}{w w':db}(h:so N fr β H)(e:dP N ai ad w β H jY aF w' aI H'):so N fr aI H':=by
 intro l i;obtain⟨b,a,c,f⟩:=h l i;have d:=e.loop b a c;obtain⟨L,g⟩:=c;exact⟨b,a,d,((e.step.loop b a ⟨_,g,trivial⟩ d).2).trans f⟩
def rE(P:dl)(n N:Nat)(fr:dz)(k:List Item)(cs:List dz)(ai ad:Nat->Prop)(w:db)(β:Bd)(H:Heap)(m:ec)(c:List dp)(Q:bA->St->Prop):Prop:=
 ∃e s' jY aF aI b w' a,Q e s'/\nu P fr k cs m b a w' e/\cN P n jY aF aI s' b w'/\dP N ai ad w β H jY aF w' aI s'.heap/\Marks fr ai w jY aF w' c a
theorem rE.of{k:List Item}{ai ad:Nat->Prop}{w:db}{β:Bd}{H:Heap}{m:ec}{ds:List dp}{Q:bA->St->Prop}{e:bA}{s':St}{aF:Nat->Prop}{aI:Bd}{a:Array c9}{w':db}(hq:Q e s')(c:nu P fr k cs m a ds w' e)
 (d:cN P n ai aF aI s' a w')(b:dP N ai ad w β H ai aF w' aI s'.heap):rE P n N fr k cs ai ad w β H m ds Q:=⟨e,s',ai,aF,aI,a,w',ds,hq,c,d,b,Marks.refl _ _ _ _ _ _⟩
theorem rE.next{k:List Item}{ai ad b a:Nat->Prop}{w c:db}{β i:Bd}{H H1:Heap}{m g:ec}{d e:List dp}{Q:bA->St->Prop}(f:dP N ai ad w β H b a c i H1)(p:Marks fr ai w b a c d e)(aK:eb P m g)
 (h:rE P n N fr k cs b a c i H1 g e Q):rE P n N fr k cs ai ad w β H m d Q:=by
 obtain⟨e2,s2,l,j,r,t2,q,o,g1,g2,g3,g4,g5⟩:=h;exact⟨e2,s2,l,j,r,t2,q,o,g1,.of_steps aK g2,g3,f.trans g4,p.trans f g5 g4⟩
def codeOk(fit:Nat->Array Oper->Bool)(n:Nat):Code->Bool
 | .region _ ops draw=>ops.toList.all (iU n)&&(!draw||fit n ops)
 | .seq a b=>codeOk fit n a&&codeOk fit n b
 | .cond _ a b=>codeOk fit n a&&codeOk fit n b
 | .block _ b| .scope b| .loop b=>codeOk fit n b
 | .rangeFunc _ _ a b=>codeOk fit n a&&codeOk fit n b
 |_=>true
def ue(P:dl)(ah:ed->Bool)(fit:Nat->Array Oper->Bool):Prop:=
 ∀(n N:Nat)(a:Array Oper)(fr:dz)(k:List Item)(cs:List dz)(b:List dp)(c:Nat)(K:St->Prop)(s:St)(ai ad:Nat->Prop)(β:Bd)(t:Array c9)(w:db),
  fit n a=true->(∀o∈a.toList,iU n o=true)->gh P ah a a.toList 0 [] K s->cN P n ai ad β s t w->
  kr P n N fr k cs a ai ad w β s.heap (lone (bE fr t b (.inRegion a (Region.schedule (P.follows .mixedOrders) a c)::k)) cs w) [] b K
theorem cN.draw{s:St}{ai ad:Nat->Prop}{β:Bd}{t:Array c9}{w w':db}(a:w'.heap=w.heap)(h:cN P n ai ad β s t w):cN P n ai ad β s t w':=
 ⟨h.heap.xa a,fun x=>az.mono (fun _ x=>x) (fun _ _=>by rw[a]) (cj.refl _ _) _ _ (h.gC x) (h.env x),h.gC,h.size⟩
section rf
variable{w w':db}{ad ai:Nat->Prop}{β:Bd}{H:Heap}
theorem bU.Le(h:bU P w ad β H ai){x:Nat}(hx:x<w.heap.size)(v:∀(b:Nat)(o:Obj),H[b]?=some o->o.live->β.al b≠x):bU P w ad β H (fun k=>ai k\/k=x):=by
 refine⟨fun b o m=>?_,h.inj,h.refs,h.bV,fun k hk=>hk.elim (h.ey k) (fun e=>e▸hx),h.ie⟩;have held:∀fz,o.live->cz ad β ai fz b->cz ad β (fun k=>ai k\/k=x) fz b:=by
  intro fz j i;unfold cz at i⊢;cases fz with
  |true=>exact i
  |false=>exact⟨i.1,fun y=>y.elim i.2 (v b o m j)⟩
 have f:=h.cC b o m;cases o with
 |hole=>trivial
 |dead=>trivial
 |box fz t=>obtain⟨cs,T,a,c,d,g⟩:=f;exact⟨cs,T,a,c,held _ trivial d,g⟩
 |arr k aw aj es=>
  rcases f with f|⟨cs,T,n,rest,a,c,d,g,p,q,r,u⟩
  ·exact .inl f
  ·by_cases j:df k es
   ·exact .inl j
   ·exact .inr ⟨cs,T,n,rest,a,c,d,g,p,q,held _ j r,u⟩
 |map fz es=>obtain⟨l,clock,a,c,d⟩:=f;exact⟨l,clock,a,c,held _ trivial d⟩
 |dx ks vs=>obtain⟨l,clock,a,c,d,g⟩:=f;exact⟨l,clock,a,c,d,held _ trivial g⟩
 |dA s pos=>obtain⟨bs,a,c,d⟩:=f;exact⟨bs,a,c,held _ trivial d⟩
 |loop L=>obtain⟨tmps,defers,fn,a,c,d,g⟩:=f;exact⟨tmps,defers,fn,a,c,d,held _ trivial g⟩
theorem bU.shut(h:bU P w ad β H ai){Prot0:Nat->Prop}(q:∀k,Prot0 k->ai k){R:Nat->Prop}(m:∀x,R x->ai x/\¬ad x)(r:w'.heap.size=w.heap.size)(hs:∀k,¬R k->w'.heap[k]?=w.heap[k]?):bU P w' ad β H Prot0:=by
 have same:∀k,ad k->w'.heap[k]?=w.heap[k]?:=fun k hk=>hs k (fun i=>(m k i).2 hk);refine⟨fun b o p=>?_,h.inj,h.refs,fun k hk=>r▸h.bV k hk,fun k hk=>r▸h.ey k (q k hk),h.ie.mono (fun _ x=>x) same⟩;have held:∀fz,cz ad β ai fz b->cz ad β Prot0 fz b:=by
  intro fz f;unfold cz at f⊢;cases fz with
  |true=>exact f
  |false=>exact⟨f.1,fun A=>f.2 (q _ A)⟩
 have al:∀fz,cz ad β ai fz b->w'.heap[β.al b]?=w.heap[β.al b]?:=by
  intro fz f;refine hs _ (fun i=>?_);unfold cz at f;cases fz with
  |true=>exact(m _ i).2 f
  |false=>exact f.2 (m _ i).1
 have g:=h.cC b o p;have j:=h.refs b o p;cases o with
 |hole=>trivial
 |dead=>trivial
 |box fz t=>obtain⟨cs,T,c,d,a,e⟩:=g;exact⟨cs,T,(al _ a).trans c,bp.mono (fun _ x=>x) same (cj.refl _ _) _ _ j d,held _ a,e⟩
 |arr k aw aj es=>
  rcases g with g|⟨cs,T,u,rest,c,d,a,e,v,y,n,z⟩
  ·exact .inl g
  ·exact .inr ⟨cs,T,u,rest,(al _ n).trans c,bM.mono (fun _ x=>x) same (cj.refl _ _) _ _ _ j d,a,e,v,y,held _ n,z⟩
 |map fz es=>obtain⟨l,clock,c,d,a⟩:=g;exact⟨l,clock,(al _ a).trans c,cA.mono (fun _ x=>x) same _ _ d,held _ a⟩
 |dx ks vs=>obtain⟨l,clock,c,d,a,e⟩:=g;exact⟨l,clock,(al _ e).trans c,bw.mono (fun _ x=>x) same _ _ d,bB.mono (fun _ x=>x) same (cj.refl _ _) _ _ j a,held _ e⟩
 |dA s pos=>obtain⟨bs,c,d,a⟩:=g;exact⟨bs,(al _ a).trans c,d,held _ a⟩
 |loop L=>obtain⟨tmps,defers,fn,c,d,a,e⟩:=g;exact⟨tmps,defers,fn,(al _ e).trans c,d,fun x=>az.mono (fun _ x=>x) same (cj.refl _ _) _ _ (j x) (a x),held _ e⟩
theorem D8(H:Heap)(o:Obj):(H++ht 1 Obj.hole).set H.length o=H++[o]:=by
 rw[List.set_append_right _ _ (h6 _)];simp
theorem Mj(a:bU P w ad β H ai){L:ek}{tmps:Array c9}{defers fn:Nat}(h:tmps.size=L.n)(l:∀x,az P w ad β H (aN L.env x) (tmps.getD x undef))(c:∀x,aD (aH H) (aN L.env x)):
 bY P ai ad w β H ad (w.alloc (.loop {state:=L.st,pending:=L.pending,fn,tmps,params:=L.params.toArray,assign:=L.assign,body:=L.body,defers})) (β.at H.length w.heap.size 0) (H++[.loop L]):=by
 have d:bY P ai ad w β H ad w β (H++ht 1 .hole):=⟨fun _ x=>x,fun _ x=>.inl x,Ext.refl _ _ _,pP _ _ _,a.nw _,mR _ _,fun b⟨L,e⟩=>⟨L,by rw[kf,if_pos (hr.1 e).1];exact e⟩⟩
 have f:(H++ht 1 Obj.hole)[H.length]?=some .hole:=by rw[kf];simp
 have aK:=(pP β H 1)
 have j:=zM (β:=β) f (.loop L) w.heap.size 0;have hrefs:∀x,aD (aH ((H++ht 1 Obj.hole).set H.length (.loop L))) (aN L.env x):=by
  intro x;rw[D8];exact aD.mono (fun y m=>KX m) _ (c x)
 have g:=uh (cap:=0) d.rel f (ob:=.loop {state:=L.st,pending:=L.pending,fn,tmps,params:=L.params.toArray,assign:=L.assign,body:=L.body,defers}) (o':=.loop L)
  ⟨tmps,defers,fn,by simp[Bd.at],h,fun x=>az.mono (fun _ x=>x) (fun k hk=>wP w _ (a.bV k hk)) j _ _ (aD.mono (mR _ _) _ (c x)) (az.mono (fun _ x=>x) (fun _ _=>rfl) aK _ _ (c x) (l x)),?_⟩ hrefs
 ·rw[D8]at g;exact d.trans g
 ·unfold cz;simp only[cx,if_false,Bd.at,if_true];exact⟨fun hi=>by have:=a.bV _ hi;omega,fun i=>by have:=a.ey _ i;omega⟩
theorem DB(g:bU P w ad β H ai){b:Nat}{L:ek}(a:H[b]?=some (.loop L))(st:LoopState)(d:Option Code):
 ∃rec:Loop,w.heap[β.al b]?=some (.loop rec)/\rec.state=L.st/\rec.pending=L.pending/\rec.params=L.params.toArray/\rec.assign=L.assign/\rec.body=L.body/\rec.tmps.size=L.n/\(∀x,az P w ad β H (aN L.env x) (rec.tmps.getD x undef))/\
  bY P ai ad w β H ad (w.putObj (β.al b) (.loop {rec with state:=st,pending:=d})) β (H.set b (.loop {L with st:=st,pending:=d})):=by
 obtain⟨tmps,defers,fn,p,q,r,c⟩:=g.cC b _ a;refine⟨_,p,rfl,rfl,rfl,rfl,rfl,q,r,?_⟩;have v:=(bv.1 p).1;have s:=(hr.1 a).1;unfold cz at c;simp only[cx,if_false]at c;have aK:cj β H β (H.set b (.loop {L with st:=st,pending:=d})):=by
  have j:∀(x:Nat)(o:Obj),(H.set b (Obj.loop {L with st:=st,pending:=d}))[x]?=some o->(∀i,o≠Obj.loop i)->H[x]?=some o:=by
   intro x o m y
   by_cases hx:b=x
   ·subst hx;rw[hv s]at m;cases m;exact(y _ rfl).elim
   ·rwa [hG hx]at m
  refine⟨?_,?_,?_,?_,?_⟩
  ·rintro x _ ⟨f,t,h⟩;exact⟨⟨f,t,j _ _ h (by simp)⟩,rfl⟩
  ·rintro x _ ⟨f,t,h⟩;exact⟨⟨f,t,j _ _ h (by simp)⟩,rfl⟩
  ·rintro x _ ⟨z,h,l⟩;exact⟨⟨z,j _ _ h (fun i e=>by rw[e]at l;exact l.elim),l⟩,rfl⟩
  ·intro x aw aj k u _ h;exact⟨k,u,j _ _ h (by simp),h6 _,Iff.rfl,fun _=>⟨rfl,rfl⟩⟩
  ·rintro x _ ⟨i,h⟩;refine⟨?_,rfl⟩
   by_cases hx:b=x
   ·subst hx;exact⟨L,a⟩
   ·rw[hG hx]at h;exact⟨i,h⟩
 have ak:∀x,aH H x->aH (H.set b (Obj.loop {L with st:=st,pending:=d})) x:=mg a (fun _ _=>trivial);have same:∀k,ad k->(w.putObj (β.al b) (.loop {state:=st,pending:=d,fn,tmps,params:=L.params.toArray,assign:=L.assign,body:=L.body,defers})).heap[k]?=w.heap[k]?:=fun k hk=>ho (fun e=>c.1 (e▸hk));refine bY.set g s (fun _ _=>⟨rfl,rfl⟩) (fun _ x=>x) (fun _ x=>.inl x) (fun k hk=>by simpa using g.bV k hk) (by simp)
  (fun k hk _=>ho (hk.resolve_right (fun h=>h trivial))) (fun _=>.inr ⟨rfl,⟨_,a,trivial⟩,.inr c.1,c.2⟩) aK
  ⟨tmps,defers,fn,World.putObj_heap_same v,q,fun x=>az.mono (fun _ x=>x) same aK _ _ (g.refs b _ a x) (r x),?_⟩ (fun x=>aD.mono ak _ (g.refs b _ a x)) (fun _ _ _ _=>trivial) (fun _ _=>⟨_,rfl⟩)
 unfold cz;simpa using c
end rf
theorem VH{s:St}{ai ad:Nat->Prop}{β:Bd}{t:Array c9}{w:db}(c:cN P n ai ad β s t w)(F:so N fr β s.heap)(e:Array Tmp)(a b:Code)(p:List dp){f:Env}(g:∀x,aN f x=aN s.env x):
 ∃l mk i m j,(Instr.enterLoop fr.fn t e a b fr.roundOf).run P w=.ok (l,mk) i/\bU P i ad j (s.heap++[.loop ⟨.ready,none,n,e.toList,a,b,f⟩]) m/\j.al s.heap.length=l/\
  dP N ai ad w β s.heap m ad i j (s.heap++[.loop ⟨.ready,none,n,e.toList,a,b,f⟩])/\Marks fr ai w m ad i p (mk++p)/\
  cj β s.heap j (s.heap++[.loop ⟨.ready,none,n,e.toList,a,b,f⟩]):=by
 cases v:fr.roundOf with
 |none=>
  have q:bY P ai ad w β s.heap ad (w.alloc (.deferred (some []))) β s.heap:=c.heap.later (fun _ x=>x) (fun _ x=>.inl x) (fun k hk=>by have:=c.heap.bV k hk;rw[hp];omega) (by rw[hp];omega) (fun k hk=>wP w _ hk);have D:=q.rel.Le (x:=w.heap.size) (by rw[hp];omega) (fun b o H G g=>by have:=c.heap.mU H G;omega);have d:=Mj (L:=⟨.ready,none,n,e.toList,a,b,f⟩) (tmps:=t) (defers:=w.heap.size) (fn:=fr.fn) D c.size (fun x=>by rw[g];exact az.mono (fun _ x=>x) (fun k hk=>wP w _ (c.heap.bV k hk)) (cj.refl _ _) _ _ (c.gC x) (c.env x)) (fun x=>by rw[g];exact c.gC x);have C:dP N ai ad w β s.heap (fun k=>ai k\/k=w.heap.size) ad (w.alloc (.deferred (some []))) β s.heap:=⟨fun _ h=>.inl h,fun _ h=>h,fun _ h=>.inl h,q.ext,(cj.refl _ _).n,fun _ _ h=>h,fun _ _ h=>h⟩
  refine⟨_,_,_,_,_,run_enterLoop_outer fr.fn t e a b,d.rel,?_,C.trans d.fq,?_,d.step⟩
  ·simp[Bd.at,hp]
  ·refine⟨[w.heap.size],rfl,by simp,?_,fun k hk=>hk.imp id (fun h=>by simp[h]),by simp[v]⟩;intro r u;simp only[hV]at u;subst u;refine⟨h6 _,.inr rfl,fun hi=>by have:=c.heap.bV _ hi;omega,?_⟩;exact(d.ext.same _ (.inl (.inr rfl))).trans (World.alloc_heap_new w _)
 |some I=>
  obtain⟨y,M,A,B⟩:=F I v;obtain⟨J,E⟩:=A;obtain⟨O,z,K,g1,_⟩:=c.heap.cC y _ E;rw[B]at g1;have d:=Mj (L:=⟨.ready,none,n,e.toList,a,b,f⟩) (tmps:=t) (defers:=z) (fn:=fr.fn) c.heap c.size (fun x=>by rw[g];exact c.env x) (fun x=>by rw[g];exact c.gC x);exact⟨_,_,_,_,_,run_enterLoop_inner g1 fr.fn t e a b,d.rel,by simp[Bd.at],d.fq,Marks.refl _ _ _ _ _ _,d.step⟩
theorem mO(M:l6 P ah){fit:Nat->Array Oper->Bool}(K:ue P ah fit):∀(c:Code)(k:List Item){Q:bA->St->Prop}{s:St}{ai ad:Nat->Prop}{β:Bd}{t:Array c9}{w:db}{ds:List dp},
 codeOk fit n c=true->cd P ah (n,N) c Q s->cN P n ai ad β s t w->so N fr β s.heap->rE P n N fr k cs ai ad w β s.heap (lone (bE fr t ds (.code c::k)) cs w) ds Q
 | .skip,k,Q,s,ai,ad,β,t,w,ds,_,h,i,_=>.of h (.one aGH:nu P fr k cs _ t ds w .normal) i (dP.refl _ _ _ _ _ _)
 | .label l,k,Q,s,ai,ad,β,t,w,ds,_,h,i,_=>.of h (.one W9:nu P fr k cs _ t ds w .normal) i (dP.refl _ _ _ _ _ _)
 | .exit id,k,Q,s,ai,ad,β,t,w,ds,_,h,i,_=>.of h (⟨k,rfl,hj _ _⟩:nu P fr k cs _ t ds w (.exit id)) i (dP.refl _ _ _ _ _ _)
 | .ret,k,Q,s,ai,ad,β,t,w,ds,_,h,i,_=>.of h (⟨k,hj _ _⟩:nu P fr k cs _ t ds w .ret) i (dP.refl _ _ _ _ _ _)
 | .region id ops draw,k,Q,s,ai,ad,β,t,w,ds,z,h,i,_=>by
  simp only[codeOk,cy,h0]at z;simp only[cd]at h;cases draw with
  |false=>
   simp only[cx,if_false]at h;obtain⟨s',aF,aI,ay,w',j,r,q,d⟩:=Kl (fr:=fr) (k:=k) (cs:=cs) (ds:=ds) (N:=N) M z.1 ops.toList 0 (by simp) h i;refine .of (e:=.normal) j ?_ q d;have e:List.range ops.size=hK 0 ops.toList.length:=by rw[List.range_eq_range'];simp
   exact(hg Wb).trans ((by rw[e];exact r:eb P _ _).trans (.one IU))
  |true=>
   simp only[if_true]at h;have a3:cN P n ai ad β s t {w with drawn:=w.drawn+1}:=cN.draw (w:=w) (w':={w with drawn:=w.drawn+1}) rfl i;obtain⟨s',aF,aI,ay,w',j,r,q,d⟩:=K n N ops fr k cs ds (w.tape w.drawn (.order fr.fn id)) _ s ai ad β t _ (by simpa using z.2) z.1 h a3;exact .of (e:=.normal) j ((hg aGD).trans (r.trans (.one IU)):nu P fr k cs _ ay ds w' .normal) q ⟨d.ey,d.bV,d.fresh,⟨d.ext.size,d.ext.same,d.ext.io⟩,d.step,d.fh,d.loop⟩
 | .seq a b,k,Q,s,ai,ad,β,t,w,ds,z,h,i,D=>by
  simp only[codeOk,cy]at z;simp only[cd]at h;obtain⟨e,s1,p,C,A,t1,o,E,j,r,q,d,B⟩:=mO M K a (.code b::k) z.1 h i D;cases e with
  |normal=>exact .next d B ((hg Em).trans r) (mO M K b k z.2 j q (D.fq d))
  |exit id=>
   obtain⟨F,O,a2⟩:=r;exact⟨.exit id,s1,p,C,A,t1,o,E,j,⟨F,O.trans (by simp[exitTo]),(hg Em).trans a2⟩,q,d,B⟩
  |ret=>
   obtain⟨F,a2⟩:=r;exact⟨.ret,s1,p,C,A,t1,o,E,j,⟨F,(hg Em).trans a2⟩,q,d,B⟩
 | .cond c a b,k,Q,s,ai,ad,β,t,w,ds,z,h,i,D=>by
  simp only[codeOk,cy]at z;simp only[cd]at h
  split at h
  ·rename_i aA aL;have ao:=(om i c).1;rw[aL]at ao;simp only[az,aC]at ao;have aK:=aGz (P:=P) (fr:=fr) (ds:=ds) (k:=k) (cs:=cs) (w:=w) (x:=a) (y:=b) ao;cases aA with
   |true=>exact .next (dP.refl N ai ad w β s.heap) (Marks.refl _ _ _ _ _ _) (.one (by simpa using aK)) (mO M K a k z.1 (by simpa using h) i D)
   |false=>exact .next (dP.refl N ai ad w β s.heap) (Marks.refl _ _ _ _ _ _) (.one (by simpa using aK)) (mO M K b k z.2 (by simpa using h) i D)
  ·exact h.elim
 | .block id b,k,Q,s,ai,ad,β,t,w,ds,z,h,i,D=>by
  simp only[codeOk]at z;simp only[cd]at h;obtain⟨e,s1,p,C,A,t1,o,E,j,r,q,d,B⟩:=mO M K b (.inBlock id::k) z h i D;cases e with
  |normal=>exact⟨.normal,s1,p,C,A,t1,o,E,j,(hg zS).trans (r.trans (.one VP)),q,d,B⟩
  |exit ac=>
   obtain⟨F,O,a2⟩:=r;dsimp only at j
   split at j
   ·rename_i hid;subst hid;refine⟨.normal,s1,p,C,A,t1,o,E,j,(hg zS).trans (a2.trans (.one (aGE ?_))),q,d,B⟩;rw[O];simp[exitTo]
   ·rename_i hid;exact⟨.exit ac,s1,p,C,A,t1,o,E,j,⟨F,O.trans (by simp[exitTo,Ne.symm hid]),(hg zS).trans a2⟩,q,d,B⟩
  |ret=>
   obtain⟨F,a2⟩:=r;exact⟨.ret,s1,p,C,A,t1,o,E,j,⟨F,(hg zS).trans a2⟩,q,d,B⟩
 | .scope b,k,Q,s,ai,ad,β,t,w,ds,z,h,i,D=>by
  simp only[codeOk]at z;simp only[cd]at h;obtain⟨e,s1,p,C,A,t1,o,E,j,r,q,d,B⟩:=mO M K b (.inScope b::k) z h i D;cases e with
  |normal=>exact⟨.normal,s1,p,C,A,t1,o,E,j,(hg Dm).trans (r.trans (.one VO)),q,d,B⟩
  |exit ac=>
   obtain⟨F,O,a2⟩:=r;exact⟨.exit ac,s1,p,C,A,t1,o,E,j,⟨F,O.trans (by simp[exitTo]),(hg Dm).trans a2⟩,q,d,B⟩
  |ret=>
   obtain⟨F,a2⟩:=r;exact⟨.ret,s1,p,C,A,t1,o,E,j,⟨F,(hg Dm).trans a2⟩,q,d,B⟩
 | .loop b,k,Q,s,ai,ad,β,t,w,ds,z,h,i,D=>by
  simp only[codeOk]at z;simp only[cd]at h;obtain⟨I,⟨m0,t0,hf,hI⟩,a5⟩:=h
  have loop:∀(m:Nat)(u:St)(ai ad:Nat->Prop)(β:Bd)(t:Array c9)(w:db)(ds:List dp),I m u->cN P n ai ad β u t w->so N fr β u.heap->
   rE P n N fr k cs ai ad w β u.heap (lone (bE fr t ds (.code b::.inLoop b::k)) cs w) ds Q:=by
   intro m
   induction m using Nat.strongRecOn with
   |_ m a8=>
    intro u ai ad β t w ds hI i D;obtain⟨e,s1,p,C,A,t1,o,E,j,r,q,d,B⟩:=mO M K b (.inLoop b::k) z (a5 m u hI) i D;cases e with
    |normal=>
     obtain⟨a9,u',a0,ar,aB⟩:=j;have ab:=ar.fq (β:=A) (ai:=p) (ad:=C) (w:=o);exact .next (d.trans ab) B (hh r (.one Wc)) (a8 a9 a0 u' p C A t1 o E aB (ar.rel q) ((D.fq d).fq ab))
    |exit ac=>
     obtain⟨F,O,a2⟩:=r;exact⟨.exit ac,s1,p,C,A,t1,o,E,j,⟨F,O.trans (by simp[exitTo]),a2⟩,q,d,B⟩
    |ret=>
     obtain⟨F,a2⟩:=r;exact⟨.ret,s1,p,C,A,t1,o,E,j,⟨F,a2⟩,q,d,B⟩
  have ab:=hf.fq (β:=β) (ai:=ai) (ad:=ad) (w:=w);exact .next ab (Marks.refl _ _ _ _ _ _) (.one aGF) (loop m0 t0 ai ad β t w ds hI (hf.rel i) (D.fq ab))
 | .rangeFunc f G a b,k,Q,s,ai,ad,β,t,w,ds,z,h,i,D=>by
  simp only[cd]at h;obtain⟨be,R,aU,h⟩:=h;have Y:=om i f
  obtain⟨g,fi,ca,J,H,aX,aW,aO,av,au,aa,v,aY,af⟩:∃g fi ca,∃J H:List c9,fF t f= .func (.func g) J.toArray H.toArray/\bB P w ad β s.heap fi J/\bB P w ad β s.heap ca H/\aV (aH s.heap) fi/\aV (aH s.heap) ca/\
   ∃aa v,cB P g (s.heap++[.loop ⟨.ready,none,n,G.toList,a,b,R⟩]) (fi++[.map s.heap.length]++ca) aa v/\iR s.heap.length s.env Q aa:=by
   unfold jJ at h
   split at h
   ·rename_i g fi ca hf;rw[hf]at Y;simp only[az,aC]at Y;obtain⟨⟨J,H,j,r,q⟩,_⟩:=Y;exact⟨g,_,_,J,H,q,jw.2 j,jw.2 r,jb _ _,jb _ _,h⟩
   ·rename_i g fi ca hf;rw[hf]at Y;simp only[az,aD]at Y;obtain⟨⟨J,H,j,r,q⟩,d,B⟩:=Y;exact⟨g,fi,ca,J,H,q,j,r,d,B,h⟩
   ·exact h.elim
  obtain⟨l,mk,o,p,A,e1,e2,e3,e4,e5,ag⟩:=VH (fr:=fr) i D G a b ds aU;obtain⟨aS,aP⟩:=aY;have ak:∀x,aH s.heap x->aH (s.heap++[.loop ⟨.ready,none,n,G.toList,a,b,R⟩]) x:=fun x hx=>KX hx;have an:∀k,ad k->o.heap[k]?=w.heap[k]?:=fun k hk=>e4.ext.same k (.inr hk);have a6:az P o ad A (s.heap++[.loop ⟨.ready,none,n,G.toList,a,b,R⟩]) (.map s.heap.length) (.func (.yield l) #[] #[]):=by
   simp only[az,bN,bR];refine⟨by simp[hl],fun W=>?_,fun _=>by rw[e3]⟩;obtain⟨bg,ap,W⟩:=W;simp at ap;subst ap;exact W.elim
  have a7:aD (aH (s.heap++[.loop ⟨.ready,none,n,G.toList,a,b,R⟩])) (.map s.heap.length):=by
   simp only[aD];exact⟨.loop ⟨.ready,none,n,G.toList,a,b,R⟩,by simp,trivial⟩
  have aJ:=pR (pR (bB.mono (fun _ x=>x) an ag _ _ av aW) (b:=[.map s.heap.length]) (y:=[.func (.yield l) #[] #[]]) (by simp only[bB];exact⟨_,_,rfl,a6,rfl⟩)) (bB.mono (fun _ x=>x) an ag _ _ au aO);have aG:=jF (jF (aV.mono ak _ av) (b:=[.map s.heap.length]) (by simp only[aV];exact⟨a7,trivial⟩)) (aV.mono ak _ au);have aZ:(invoke (.fn (.func g) H.toArray) (J.toArray++#[.func (.yield l) #[] #[]])).run P o=.ok (.enter g (J++[(.func (.yield l) #[] #[]:c9)]++H).toArray) o:=by
   have:=aS (J++[(.func (.yield l) #[] #[]:c9)]++H).toArray o;simp only[invoke];rw[<-this];congr 2;simp
  have a4:(resolve (Act.eval ⟨t,ds⟩) (rangeCall f l) 0).run P o=.ok (⟨.fn (.func g) H.toArray,J.toArray++#[.func (.yield l) #[] #[]]⟩:dp) o:=by
   have al:(Act.eval ⟨t,ds⟩) f=fF t f:=by cases f<;>rfl
   have aQ:(rangeCall f l).args.map (Act.eval ⟨t,ds⟩)=#[.func (.yield l) #[] #[]]:=by simp[Act.eval]
   simp only[resolve,aQ];simp only[al,aX,Deferred.ofValue];rfl
  have aT:=stepR_rangeFunc (P:=P) (b:=fr) (a:=⟨t,ds⟩) (k:=k) (cs:=cs) (w:=w) (g:=f) (ps:=G) (assign:=a) (body:=b) e1 a4 aZ;obtain⟨e,ae,bd,⟨bc,X,U,al,g1,g2,g3⟩,aK,bf,a1⟩:=aP o ad p A _ e2 aJ aG (fr.atR ⟨t,mk++ds⟩ (.inRangeFunc l::k)::cs);subst al;unfold iR at af
  split at af
  case h_2=>exact af.elim
  rename_i L aq;obtain⟨aN,Z⟩:=af;obtain⟨rec,aw,ba,bb,bh,bi,bj,bk,bl,ax⟩:=DB g1.rel aq .exhausted L.pending;have aE:aH (s.heap++[.loop ⟨.ready,none,n,G.toList,a,b,R⟩]) (s.heap.length,0):=⟨.loop ⟨.ready,none,n,G.toList,a,b,R⟩,by simp,trivial⟩
  have aM:X.al s.heap.length=l:=((g1.step.loop _ aE ⟨_,aq⟩).2).trans e3;rw[aM]at aw ax;have aR:=run_endLoop (P:=P) aw (by rw[ba];exact aN);have S:eb P (lone (bE fr t ds (.code (.rangeFunc f G a b)::k)) cs w) (lone (bE fr t (mk++ds) ((rec.pending.map Item.code).toList++k)) cs (ae.putObj l (.loop {rec with state:=.exhausted}))):=by
   refine(hg aT).trans (hh aK ?_);refine(hg (step_leave_returned a1)).trans ?_;rw[finish_atR_inRangeFunc];exact .one (stepR_endRangeFunc aR)
  have S:eb P (lone (bE fr t ds (.code (.rangeFunc f G a b)::k)) cs w) (lone (bE fr t (mk++ds) ((L.pending.map Item.code).toList++k)) cs (ae.putObj l (.loop {rec with state:=.exhausted,pending:=L.pending}))):=by
   rw[<-bb];exact S
  have V:bY P p ad o A (s.heap++[.loop ⟨.ready,none,n,G.toList,a,b,R⟩]) U _ X _:=g1.trans ax;have am:cN P n p U X ⟨s.env,aa.set s.heap.length (.loop {L with st:=.exhausted})⟩ t (ae.putObj l (.loop {rec with state:=.exhausted,pending:=L.pending})):=by
   refine⟨V.rel,fun x=>?_,fun x=>?_,i.size⟩
   ·exact az.mono V.bV (fun k hk=>V.ext.same k (.inr hk)) V.step _ _ (aD.mono ak _ (i.gC x)) (az.mono (fun _ x=>x) an ag _ _ (i.gC x) (i.env x))
   ·exact aD.mono V.fh _ (aD.mono ak _ (i.gC x))
  have aj:dP N ai ad w β s.heap p U (ae.putObj l (.loop {rec with state:=.exhausted,pending:=L.pending})) X (aa.set s.heap.length (.loop {L with st:=.exhausted})):=e4.trans V.fq;have W:Marks fr ai w p U (ae.putObj l (.loop {rec with state:=.exhausted,pending:=L.pending})) ds (mk++ds):=e5.trans e4 (Marks.refl _ _ _ _ _ _) V.fq;unfold jM at Z
  split at Z
  ·rename_i T;rw[T]at S;exact⟨.normal,_,p,U,X,t,_,mk++ds,Z,by rw[T];exact S,am,aj,W⟩
  ·rename_i id T;rw[T]at S;exact⟨.exit id,_,p,U,X,t,_,mk++ds,Z,⟨k,rfl,by rw[T];exact S⟩,am,aj,W⟩
  ·rename_i T;rw[T]at S;exact⟨.ret,_,p,U,X,t,_,mk++ds,Z,⟨k,by rw[T];exact S⟩,am,aj,W⟩
  ·exact Z.elim
 | .goto _,_,_,_,_,_,_,_,_,_,_,h,_,_| .refuse _,_,_,_,_,_,_,_,_,_,_,h,_,_=>by simp[cd]at h
end
end Go.ag
namespace Go.ag
variable[Gl]
def iD(i:Nat):List AV->Env
 |[]=>[]
 |v::r=>(i,v)::iD (i+1) r
def qz(P:dl)(s:St):ea->Option AV
 | .tmp t=>some (aN s.env t)
 | .cell a T=>match aN s.env a with
  | .ptr b path=>match s.heap[b]? with
   |some (.box _ t)=>match eZ t path with
    |some v=>if kindOf P T=aa v then some v else none
    |none=>none
   |_=>none
  |_=>none
def fH(P:dl)(s:St):List ea->Option (List AV)
 |[]=>some []
 |r::rs=>match qz P s r,fH P s rs with
  |some v,some vs=>some (v::vs)
  |_,_=>none
def oneOf:List AV->AV
 |[v]=>v
 |vs=>match eU vs with
  |some l=>.p (.aE l)
  |none=>.aE vs
def jS(f:AV->Option PV):List AV->Option (List PV)
 |[]=>some []
 |v::vs=>match f v,jS f vs with
  |some p,some a=>some (p::a)
  |_,_=>none
def eC(H:Heap):Nat->AV->Option PV
 |0,.p v=>some v
 |0,_=>none
 |n+1,x=>match x with
  | .p v=>some v
  | .sl b aw aj off len=>match H[b]? with
   |some (.arr k e c es)=>
    if aw=e/\aj=c/\off+len<=es.length then
     if k.gr=true/\es=[]then some .aW else
     match jS (eC H n) ((es.drop off).take len)with
     |some d=>some (.bP (k== .exact&&off+len==es.length) d)
     |none=>none
    else none
   |_=>none
  | .ptr b path=>match H[b]? with
   |some (.box _ t)=>match eZ t path with
    |some s=>match eC H n s with
     |some p=>some (.cw p)
     |none=>none
    |none=>none
   |_=>none
  | .map b=>match H[b]? with
   |some (.map _ es)=>some (.fg es)
   |_=>none
  | .func f fi ca=>match jS (eC H n) fi,jS (eC H n) ca with
   |some a,some b=>some (.func f a b)
   |_,_=>none
  | .st u fs=>match jS (eC H n) fs with
   |some l=>some (.st u l)
   |none=>none
  | .aE vs=>match jS (eC H n) vs with
   |some l=>some (.aE l)
   |none=>none
  | .b7 _ _ _ _ _=>none
section
variable{P:dl}{w:db}{ad ai:Nat->Prop}{β:Bd}{H:Heap}
def EG(ad:Nat->Prop)(β:Bd)(H:Heap)(k:Nat):Prop:=ad k\/∃(b:Nat)(o:Obj),H[b]?=some o/\o.live/\β.al b=k
theorem Ld:∀{n:Nat}{v:AV}{p:PV},eC H n v=some p->(aa v=aM p)
 |0,v,p,h=>by
  cases v<;>simp[eC]at h;subst h;rfl
 |n+1,v,p,h=>by
  cases v<;>simp only[eC]at h
  case p v=>simp at h;subst h;rfl
  case b7=>simp at h
  case sl b aw aj off len=>
   split at h
   ·split at h
    ·split at h
     ·simp at h;subst h;rfl
     ·split at h
      ·simp at h;subst h;rfl
      ·simp at h
    ·simp at h
   ·simp at h
  case ptr b path=>
   split at h
   ·split at h
    ·split at h
     ·simp at h;subst h;rfl
     ·simp at h
    ·simp at h
   ·simp at h
  all_goals
   split at h
   ·simp at h;subst h;rfl
   ·simp at h
theorem JT{v:AV}{p:PV}{cs:List c9}(hs:aa v=aM p)(hc:bp P w ad β H v cs){I:Nat->Prop}(h:∀x,az P w ad β H v x->aC P w I p x):aS P w I p cs:=by
 cases a:aa v with
 |bad=>exact((nZ hc).2 a).elim
 |leaf=>
  obtain⟨c,rfl,b⟩:=(Du a cs).1 hc;exact(uk (hs▸a) _).2 ⟨c,rfl,h _ b⟩
 |agg u=>exact(xy (hs▸a) cs).2 (h _ ((NQ a cs).1 hc))
section lists
variable{f:AV->Option PV}{I:Nat->Prop}(hf:∀v p,f v=some p->aa v=aM p/\(aD (aH H) v->∀x,az P w ad β H v x->aC P w I p x))
include hf
theorem zH:∀{vs:List AV}{a:List PV},jS f vs=some a->aV (aH H) vs->∀b,bB P w ad β H vs b->bw P w I a b
 |[],a,h,_,b,hx=>by
  simp[jS]at h;subst h;simpa[bB,bw]using hx
 |v::vs,a,h,c,b,hx=>by
  simp only[jS]at h
  split at h
  case h_2=>simp at h
  rename_i q g hq d;simp at h;subst h;simp only[aV]at c;simp only[bB]at hx;obtain⟨y,e,rfl,k1,k2⟩:=hx;simp only[bw];exact⟨y,e,rfl,(hf _ _ hq).2 c.1 _ k1,zH d c.2 _ k2⟩
theorem CH:∀{vs:List AV}{b:List PV},jS f vs=some b->aV (aH H) vs->∀l a,bM P w ad β H l vs a->bd P w I l b a
 |[],b,h,_,l,a,hx=>by
  simp[jS]at h;subst h;cases l<;>simp_all [bM,bd]
 |v::vs,b,h,d,l,a,hx=>by
  simp only[jS]at h
  split at h
  case h_2=>simp at h
  rename_i q g hq e;simp at h;subst h;simp only[aV]at d;cases l with
  |nil=>simp[bM]at hx
  |cons m l=>
   simp only[bM]at hx;obtain⟨c,cs,rfl,k1,k2,k3⟩:=hx;simp only[bd];exact⟨c,cs,rfl,JT (hf _ _ hq).1 k1 ((hf _ _ hq).2 d.1),k2,CH e d.2 _ _ k3⟩
end lists
theorem zp(e:bU P w ad β H ai):∀(n:Nat)(v:AV)(p:PV),eC H n v=some p->aD (aH H) v->∀x,az P w ad β H v x->aC P w (EG ad β H) p x
 |0,v,p,h,_,x,hx=>by
  cases v<;>simp[eC]at h;subst h;simp only[az]at hx;exact aC.mono (fun _=>.inl) (fun _ _=>rfl) _ _ hx
 |n+1,v,p,h,g,x,hx=>by
  have hf:∀v p,eC H n v=some p->aa v=aM p/\(aD (aH H) v->∀x,az P w ad β H v x->aC P w (EG ad β H) p x):=fun v p h=>⟨Ld h,zp e n v p h⟩
  cases v<;>simp only[eC]at h
  case p v=>
   simp at h;subst h;simp only[az]at hx;exact aC.mono (fun _=>.inl) (fun _ _=>rfl) _ _ hx
  case b7=>simp at h
  case sl b aw aj off len=>
   split at h
   case h_2=>simp at h
   rename_i k ae Y y d
   split at h
   case isFalse=>simp at h
   rename_i L;obtain⟨rfl,rfl,z⟩:=L;simp only[az]at hx;obtain⟨_,hx⟩:=hx;simp only[bR]at hx;obtain⟨v1,v2,v3⟩:=hx k y d
   split at h
   ·rename_i r;simp at h;subst h;simp[aC,v2 r]
   ·rename_i r
    split at h
    case h_2=>simp at h
    rename_i W O;simp at h;subst h;rw[v3 r];rcases e.cC b _ d with hold|⟨cs,T,C,rest,i,j,B,G,Z,I,ab,ac⟩
    ·exact(r hold).elim
    obtain⟨a,m,c,e1,e2,e3,e4,e5⟩:=jG j off len v1;have R:aV (aH H) ((y.drop off).take len):=by
     have:=e.refs b _ d;rw[cJ];intro v S;exact cJ.1 this v (hS (hR S))
    have M:((y.drop off).take len).length=len:=by simp;omega
    have k1:=CH hf O R _ _ e2;have A:W.length=len:=by have:=(wE k1).2.1;simp at this;omega
    simp only[aC];refine⟨β.al b,off*aj,β.cap b-off,aj,m,by rw[A,<-M];exact k1,fun _=>.inr ⟨b,_,d,r,rfl⟩,?_,?_,?_,none,.inl rfl,?_⟩
    ·rw[<-e3];exact l8 i (post:=c.flatten++rest) (by rw[B,e1];simp)
    ·intro hf;simp at hf;rw[A,I hf.1];omega
    ·rw[A];omega
    ·rw[A]
  case ptr b path=>
   split at h
   case h_2=>simp at h
   rename_i fz t d
   split at h
   case h_2=>simp at h
   rename_i s hs
   split at h
   case h_2=>simp at h
   rename_i q hq;simp at h;subst h;simp only[az]at hx;obtain⟨_,hx⟩:=hx;simp only[bR]at hx;obtain⟨X,V,o,rfl,N,hx⟩:=hx;obtain⟨rfl,rfl⟩:=hx (.inl ⟨fz,_,d⟩);obtain⟨cs,T,i,j,B,G⟩:=e.cC b _ d;obtain⟨pre,xs,post,e1,e2,e3,_⟩:=ql j hs N;have Q:aD (aH H) s:=wZ hs (e.refs b _ d);simp only[aC];refine⟨β.al b,V,xs,JT (Ld hq) e3 (zp e n _ _ hq Q),.inr ⟨b,_,d,trivial,rfl⟩,?_,rfl⟩;rw[<-e2];exact l8 i e1
  case map b=>
   split at h
   case h_2=>simp at h
   rename_i fz y d;simp at h;subst h;simp only[az]at hx;obtain⟨_,hx⟩:=hx;simp only[bR]at hx;have hx:=hx.1 ⟨_,d,trivial⟩;obtain⟨E,clock,i,j,B⟩:=e.cC b _ d;simp only[aC];exact⟨β.al b,E,clock,.inr ⟨b,_,d,trivial,rfl⟩,i,cA.mono (fun _=>.inl) (fun _ _=>rfl) _ _ j,hx⟩
  case func f a b=>
   split at h
   case h_2=>simp at h
   rename_i a' b' J K;simp at h;subst h;simp only[aD]at g;simp only[az]at hx;obtain⟨F,D,k1,k2,k3⟩:=hx;simp only[aC];exact⟨F,D,zH hf J g.1 _ k1,zH hf K g.2 _ k2,k3⟩
  case st u fs=>
   split at h
   case h_2=>simp at h
   rename_i l z;simp at h;subst h;simp only[aD]at g;simp only[az]at hx;obtain⟨U,C,k1,k2,k3⟩:=hx;simp only[aC];exact⟨U,C,k1,CH hf z g _ _ k2,k3⟩
  case aE vs=>
   split at h
   case h_2=>simp at h
   rename_i l z;simp at h;subst h;simp only[aD]at g;simp only[az]at hx;obtain⟨xs,k1,k2⟩:=hx;simp only[aC];exact⟨xs,zH hf z g _ k1,k2⟩
end
section
variable{P:dl}{ah:ed->Bool}{fit:Nat->Array Oper->Bool}
theorem CF:∀(args:List AV)(i x:Nat),aN (iD i args) x=if i<=x then(args[x-i]?).getD (.p .undef)else .p .undef
 |[],i,x=>by simp[iD,aN]
 |v::r,i,x=>by
  simp only[iD,aN,CF r]
  by_cases h:x=i
  ·subst h;simp
  ·by_cases b:i<=x
   ·have a:i+1<=x:=by omega
    simp only[h,b,a,if_true,if_false];rw[show x-i=(x-(i+1))+1 by omega,hQ]
   ·have a:¬i+1<=x:=by omega
    simp[h,b,a]
theorem um{w:db}{ad:Nat->Prop}{β:Bd}{H:Heap}:∀{vs:List AV}{xs:List c9},bB P w ad β H vs xs->xs.length=vs.length/\∀i:Nat,az P w ad β H ((vs[i]?).getD (.p .undef)) ((xs[i]?).getD undef)
 |[],xs,h=>by simp only[bB]at h;subst h;simp[az,aC]
 |v::vs,xs,h=>by
  simp only[bB]at h;obtain⟨y,c,rfl,a,b⟩:=h;have:=um b;refine⟨by simp[this.1],fun i=>?_⟩;cases i with
  |zero=>simpa using a
  |succ i=>simpa using this.2 i
theorem Wa{ai ad:Nat->Prop}{β:Bd}{w:db}{H:Heap}{args:List AV}{a:List c9}{n:Nat}(f:bU P w ad β H ai)(d:bB P w ad β H args a)(g:aV (aH H) args)(i:args.length<=n):
 cN P n ai ad β ⟨iD 0 args,H⟩ (a.toArray++bo (n-a.length) undef) w:=by
 obtain⟨b,c⟩:=um d;refine⟨f,fun x=>?_,fun x=>?_,by simp[b];omega⟩
 ·have e:(a.toArray++bo (n-a.length) undef).getD x undef=(a[x]?).getD undef:=by
   rw[b3,<-cb];simp only[Array.toList_append,Array.toList_replicate]
   by_cases hx:x<a.length
   ·rw[List.getElem?_append_left (by simpa using hx)]
   ·rw[List.getElem?_append_right (by simpa using hx)];simp only[hB];rw[List.getElem?_eq_none (by simpa using hx)]
    split<;>rfl
  rw[e,CF];simpa using c x
 ·rw[CF];simp only[Nat.zero_le,if_true,Nat.sub_zero];cases h:args[x]? with
  |none=>simp[aD]
  |some v=>exact cJ.1 g v (hF h)
theorem I7{w:db}{ad:Nat->Prop}{β:Bd}{H:Heap}{T:dg}{v:AV}{al off:Nat}{a:List c9}(hk:kindOf P T=aa v)(f:bp P w ad β H v a)(hc:gL w al off a):
 ∃g,(loadVar T ⟨al,off,none⟩).run P w=.ok g w/\az P w ad β H v g:=by
 obtain⟨o,n⟩:=nZ f;have m:∀j,(⟨al,off,none⟩:Addr).add j=⟨al,off+j,none⟩:=by intro j;unfold Addr.add;split<;>simp_all
 unfold kindOf at hk;cases hs:aa v with
 |bad=>exact(n hs).elim
 |leaf=>
  rw[hs]at hk;obtain⟨c,rfl,e⟩:=(Du hs a).1 f;refine⟨c,?_,e⟩;have h:=hc 0 (by simp);simp only[h9,List.getElem_cons_zero]at h;have b:(isAgg T).run P w=.ok false w:=by
   cases hu:P.underlying T with
   |none=>simp[hu]at hk
   |some d=>
    cases d<;>simp only[hu]at hk<;>first
     |(simp[isAgg,c6 hu];done)
     |(split at hk<;>simp at hk)
  simp[loadVar,b,h]
 |agg u=>
  rw[hs]at hk;have e:=(NQ hs a).1 f;refine⟨.agg a.toArray,?_,e⟩;have b:(isAgg T).run P w=.ok true w/\P.cellsOf T=a.length:=by
   rw[o,hs];cases hu:P.underlying T with
   |none=>simp[hu]at hk
   |some d=>
    cases d<;>simp only[hu]at hk<;>first
     |(split at hk
       ·rename_i hc;simp at hk;subst hk;simp at hc;refine⟨by simp[isAgg,c6 hu],hc.2⟩
       ·simp at hk)
     |(split at hk<;>simp at hk)
  obtain⟨i,hi⟩:∃i,P.info? T=some i:=by
   cases hi:P.info? T with
   |none=>
    have l:=b.1;simp[isAgg,underlying,g0,hi]at l
   |some i=>exact⟨i,rfl⟩
  have q:(sizeOf T).run P w=.ok a.length w:=by
   rw[<-b.2];simp[sizeOf,typeInfo,hi,gy]
  have p:=run_loadCells_list (P:=P) w ⟨al,off,none⟩ a (fun j x hx=>by
   rw[m];have k:j<a.length:=(hr.1 hx).1;rw[hc j k];rw[hz k]at hx;exact hx)
  simp[loadVar,b.1,q,p]
theorem VW{n:Nat}{ai ad:Nat->Prop}{β:Bd}{s:St}{t:Array c9}{w:db}(h:cN P n ai ad β s t w){g:ea}{v:AV}(c:qz P s g=some v):
 ∃e,(match g with
  | .tmp x=>(pure (t.getD x undef):Sem c9)
  | .cell a T=>do loadVar T (<-asAddr (t.getD a undef))).run P w=.ok e w/\az P w ad β s.heap v e/\aD (aH s.heap) v:=by
 cases g with
 |tmp x=>
  simp[qz]at c;subst c;exact⟨_,rfl,h.env x,h.gC x⟩
 |cell a T=>
  simp only[qz]at c;have d:=h.env a
  split at c
  case h_2=>simp at c
  rename_i b B k;rw[k]at d
  split at c
  case h_2=>simp at c
  rename_i fz r f
  split at c
  case h_2=>simp at c
  rename_i v' hs
  split at c
  case isFalse=>simp at c
  rename_i hc;simp at c;subst c;simp only[az]at d;obtain⟨_,d⟩:=d;simp only[bR]at d;obtain⟨y,q,o,p,m,d⟩:=d;obtain⟨rfl,rfl⟩:=d (.inl ⟨fz,r,f⟩);obtain⟨cs,u,i,j,z,A⟩:=h.heap.cC b _ f;obtain⟨pre,xs,post,e1,e2,e3,_⟩:=ql j hs m;have l:gL w (β.al b) q xs:=by rw[<-e2];exact l8 i e1
  obtain⟨e,k1,k2⟩:=I7 hc e3 l;refine⟨e,?_,k2,wZ hs (h.heap.refs b _ f)⟩;simp only[p,asAddr];simp[k1]
theorem Ja{n:Nat}{ai ad:Nat->Prop}{β:Bd}{s:St}{t:Array c9}{w:db}(h:cN P n ai ad β s t w):∀{d:List ea}{vs:List AV},fH P s d=some vs->
 ∃c:List c9,(d.mapM (fun i:ea=>match i with
  | .tmp x=>(pure (t.getD x undef):Sem c9)
  | .cell a T=>do loadVar T (<-asAddr (t.getD a undef)))).run P w=.ok c w/\bB P w ad β s.heap vs c/\aV (aH s.heap) vs
 |[],vs,b=>by
  simp[fH]at b;subst b;exact⟨[],by simp,by simp[bB],by simp[aV]⟩
 |r::d,vs,b=>by
  simp only[fH]at b
  split at b
  case h_2=>simp at b
  rename_i v j f g;simp at b;subst b;obtain⟨e,k1,k2,k3⟩:=VW h f;obtain⟨c,g1,g2,g3⟩:=Ja h g;refine⟨e::c,?_,by simp only[bB];exact⟨e,c,rfl,k2,g2⟩,by simp only[aV];exact⟨k3,g3⟩⟩;simp only[h2,ha,k1,g9,g1];rfl
theorem Kn{w:db}{ad:Nat->Prop}{β:Bd}{H:Heap}{vs:List AV}{a:List c9}(h:bB P w ad β H vs a)(d:aV (aH H) vs):
 az P w ad β H (oneOf vs) (if h:a.toArray.size=1 then a.toArray[0]else .tuple a.toArray)/\aD (aH H) (oneOf vs):=by
 have b:=(um h).1
 match vs,a,h with
 |[v],[c],h=>
  simp only[bB]at h;obtain⟨y,j,g,e,i⟩:=h;cases g;simp only[aV]at d;exact⟨by simpa[oneOf]using e,by simpa[oneOf]using d.1⟩
 |[],[],h=>exact⟨by simp[oneOf,eU,az,aC,bw],by simp[oneOf,eU,aD]⟩
 |v1::v2::vs,c1::c2::a,h=>
  have hs:¬(c1::c2::a).toArray.size=1:=by simp
  rw[dif_neg hs];simp only[oneOf];cases f:eU (v1::v2::vs)with
  |none=>exact⟨by simp only[az];exact⟨_,h,rfl⟩,by simpa only[aD]using d⟩
  |some l=>
   have:=me f;rw[this]at h;exact⟨by simp only[az,aC];exact⟨_,jw.1 h,rfl⟩,by simp[aD]⟩
 |[],_::_,_=>simp at b
 |[_],[],_=>simp at b
 |[_],_::_::_,_=>simp at b
 |_::_::_,[],_=>simp at b
 |_::_::_,[_],_=>simp at b
theorem takes{fr:dz}{cs:List dz}(c:fr.mode= .returning):∀(a:List Nat)(w:db),a.Nodup->(∀r∈a,w.heap[r]?=some (.deferred (some [])))->
 ∃w',eb P (lone {fr with defers:=a.map mark} cs w) (lone {fr with defers:=[]} cs w')/\w'.heap.size=w.heap.size/\(∀k,k∉a->w'.heap[k]?=w.heap[k]?)/\(w'.os=w.os/\w'.output=w.output)
 |[],w,_,_=>⟨w,hj _ _,rfl,fun _ _=>rfl,rfl,rfl⟩
 |r::a,w,b,h=>by
  rw[List.nodup_cons]at b;have f:=h r (by simp);have hk:=run_takeDeferred (P:=P) f;have m:=(bv.1 f).1;obtain⟨w',g,i,j,l⟩:=takes c a (w.putObj r (.deferred none)) b.2 (fun x hx=>(ho (fun(e:x=r)=>b.1 (e▸hx))).trans (h x (by simp[hx])));refine⟨w',(hg (step_collected (fr:={fr with defers:=(r::a).map mark}) (d:=mark r) (ds:=a.map mark) (by simp[c]) rfl rfl hk)).trans g,by simpa using i,fun k hk=>?_,l⟩;simp only[List.mem_cons,not_or]at hk;exact(j k hk.2).trans (ho hk.1)
theorem Jt{N:Nat}{f:ed}{fn:Func}{c:Code}(A:l6 P ah)(z:ue P ah fit)(hf:P.funcs[f]?=some fn)(G:fn.body=some c)(O:codeOk fit fn.ntmps c=true)
 {args:List AV}{H:Heap}{R:List AV->St->Prop}(L:args.length<=fn.ntmps)
 (U:cd P ah (fn.ntmps,N) c (fun e s=>(match e with
  | .exit _=>False
  |_=>True)/\∃vs,fH P s fn.results.toList=some vs/\R vs s) ⟨iD 0 args,H⟩)
 {w:db}{ad ai:Nat->Prop}{β:Bd}{d:List c9}(i:bU P w ad β H ai)(u:bB P w ad β H args d)(Q:aV (aH H) args):
 Calls P f d.toArray w fun e w'=>∃vs s a aF aI t,e=.returned (if h:a.toArray.size=1 then a.toArray[0]else .tuple a.toArray)/\R vs s/\cN P fn.ntmps ai aF aI s t w'/\dP N ai ad w β H ai aF w' aI s.heap/\
  bB P w' aF aI s.heap vs a/\aV (aH s.heap) vs:=by
 intro cs;have Y:=(um u).1;obtain⟨g,j⟩:∃g:dz,g={fn:=f,tmps:=#[],todo:=[],defers:=[],mode:=.run,kind:=.normal}:=⟨_,rfl⟩
 have I:Frame.enter P f d.toArray .normal=bE g (d.toArray++bo (fn.ntmps-d.length) undef) [] [.code c]:=by
  subst j;simp[Frame.enter,bE,hf,G]
 obtain⟨e,s,W,aF,aI,t,p,X,⟨B,vs,C,D⟩,o,m,b,E⟩:=mO (fr:=g) (cs:=cs) (ds:=[]) A z c [] O U (Wa i u Q L) (fun l J=>by subst j;cases J);obtain⟨rs,v,M,n,Z,_⟩:=E;rw[h1]at v;subst v;rw[I]
 have q:∀todo,eb P (lone (bE g (d.toArray++bo (fn.ntmps-d.length) undef) [] [.code c]) cs w) (lone {bE g t (rs.map mark) todo with mode:= .returning} cs p)->
  ∃e w' fr,(∃vs s a aF aI t,e=.returned (if h:a.toArray.size=1 then a.toArray[0]else .tuple a.toArray)/\R vs s/\cN P fn.ntmps ai aF aI s t w'/\dP N ai ad w β H ai aF w' aI s.heap/\
   bB P w' aF aI s.heap vs a/\aV (aH s.heap) vs)/\Comes P (lone (bE g (d.toArray++bo (fn.ntmps-d.length) undef) [] [.code c]) cs w) (lone fr cs w') e/\fr.fn=f/\fr.leaving P w' e:=by
  intro todo aK;obtain⟨w',t1,t2,t3,t4⟩:=takes (P:=P) (fr:={bE g t (rs.map mark) todo with mode:=.returning}) (cs:=cs) rfl rs p M (fun r i=>(n r i).2.2.2);have T:∀k,aF k->w'.heap[k]?=p.heap[k]?:=fun k hk=>t3 k (fun i=>(n k i).2.2.1 hk);have y:cN P fn.ntmps ai aF aI s t w':=⟨m.heap.shut b.ey (R:=fun k=>k∈rs) (fun x hx=>⟨(n x hx).2.1,(n x hx).2.2.1⟩) t2 t3,fun x=>az.mono (fun _ x=>x) T (cj.refl _ _) _ _ (m.gC x) (m.env x),m.gC,m.size⟩
  have F:dP N ai ad w β H ai aF w' aI s.heap:=⟨fun _ x=>x,b.bV,b.fresh,⟨by rw[t2];exact b.ext.size,fun k hk=>(t3 k (fun K=>by
   have:=(n k K).1;have:=hk.elim (i.ey k) (i.bV k);omega)).trans (b.ext.same k hk),t4.1.trans b.ext.io.1,t4.2.trans b.ext.io.2⟩,b.step,b.fh,b.loop⟩
  obtain⟨a,g1,g2,g3⟩:=Ja y C;have S:(results fn t).run P w'=.ok (if h:a.toArray.size=1 then a.toArray[0]else .tuple a.toArray) w':=by
   simp only[results];rw[b4];rw[ha,hd]
   erw [g1]
   rfl
  refine⟨_,w',{bE g t [] todo with mode:=.returning},⟨vs,s,a,aF,aI,t,rfl,D,y,F,g2,g3⟩,hh aK t1,by subst j;rfl,?_⟩;subst j;exact⟨rfl,rfl,rfl,fn,hf,S⟩
 cases e with
 |exit id=>exact B.elim
 |normal=>
  exact q [] (hh o (.one (eo (by subst j;simp[stepG,stepG.exec,bE]))))
 |ret=>
  obtain⟨V,o⟩:=o;exact q (.code .ret::V) (hh o (.one (eo (by subst j;simp[stepG,stepG.exec,bE]))))
theorem LP{f:ed}{fn:Func}{c:Code}(n:l6 P ah)(m:ue P ah fit)(A:Enters P f)(hf:P.funcs[f]?=some fn)(z:fn.body=some c)(E:codeOk fit fn.ntmps c=true)
 {args:List PV}{v:PV}(D:args.length<=fn.ntmps)
 (I:cd P ah (fn.ntmps,0) c (fun e s=>(match e with
  | .exit _=>False
  |_=>True)/\∃vs,fH P s fn.results.toList=some vs/\eC s.heap 9 (oneOf vs)=some v) ⟨iD 0 (args.map .p),[]⟩):sP P f args v:=by
 refine⟨A,fun w ad J C B y=>?_⟩;have F:bU P w ad ⟨id,id⟩ [] (fun k=>k<w.heap.size):=⟨by simp,by simp,by simp,C,fun _ h=>h,B⟩
 refine(Jt n m hf z E (R:=fun vs s=>eC s.heap 9 (oneOf vs)=some v) (by simpa using D) I F (jw.2 y) (jb _ _)).mono ?_;rintro e w' ⟨vs,s,K,aF,aI,t,rfl,x,hs,d,G,H⟩;obtain⟨q,r⟩:=Kn G H;have u:=zp hs.heap _ _ _ x r _ q;refine⟨_,EG aF aI s.heap,rfl,fun k hk=>.inl (d.bV k hk),?_,?_,d.ext.size,fun k hk=>d.ext.same k (.inl hk),d.ext.io,u⟩
 ·rintro k (hk|⟨b,o,j,g,rfl⟩)
  ·rcases d.fresh k hk with h|h
   ·exact .inl h
   ·exact .inr (by omega)
  ·by_cases l:aI.al b<w.heap.size
   ·
    left;have a:=hs.heap.cC b o j;have:aF (aI.al b)\/¬(aI.al b<w.heap.size):=by
     have key:∀fz,cz aF aI (fun k=>k<w.heap.size) fz b->aF (aI.al b)\/¬(aI.al b<w.heap.size):=fun fz h=>by
      cases fz with
      |true=>exact .inl h
      |false=>exact .inr h.2
     cases o with
     |hole=>exact g.elim
     |dead=>exact g.elim
     |box fz t=>obtain⟨_,_,_,_,h,_⟩:=a;exact key _ h
     |arr k aw aj es=>
      rcases a with a|⟨_,_,_,_,_,_,_,_,_,_,h,_⟩
      ·exact(g a).elim
      ·exact key _ h
     |map fz es=>obtain⟨_,_,_,_,h⟩:=a;exact key _ h
     |dx ks vs=>obtain⟨_,_,_,_,_,h⟩:=a;exact key _ h
     |dA s pos=>obtain⟨_,_,_,h⟩:=a;exact key _ h
     |loop L=>obtain⟨_,_,_,_,_,_,h⟩:=a;exact key _ h
    rcases this with h|h
    ·rcases d.fresh _ h with i|i
     ·exact i
     ·exact(i l).elim
    ·exact(h l).elim
   ·exact .inr (by omega)
 ·rintro k (hk|⟨b,o,j,g,rfl⟩)
  ·exact hs.heap.bV k hk
  ·exact hs.heap.mU j g
def uZ(P:dl)(a:List ea)(N:Nat)(H':Heap)(v:AV)(e:bA)(s:St):Prop:=
 (match e with
  | .exit _=>False
  |_=>True)/\∃vs,fH P s a=some vs/\oneOf vs=v/\(H'=s.heap\/(cV N s ⟨[],H'⟩/\aD (aH H') v))
theorem XE{f:ed}{fn:Func}{c:Code}(q:l6 P ah)(p:ue P ah fit)(u:Enters P f)(hf:P.funcs[f]?=some fn)(j:fn.body=some c)(A:codeOk fit fn.ntmps c=true)
 {args:List AV}{H H':Heap}{v:AV}(z:args.length<=fn.ntmps)(G:cd P ah (fn.ntmps,H.length) c (uZ P fn.results.toList H.length H' v) ⟨iD 0 args,H⟩):cB P f H args H' v:=by
 refine⟨u,fun w ad ai β I B r C=>?_⟩;refine(Jt q p hf j A (R:=fun vs s=>oneOf vs=v/\(H'=s.heap\/(cV H.length s ⟨[],H'⟩/\aD (aH H') v))) z G B r C).mono ?_;rintro e w' ⟨vs,s,g,aF,aI,t,rfl,⟨rfl,a⟩,hs,m,F,E⟩;obtain⟨i,k⟩:=Kn F E;obtain⟨d,k1,k2,k3⟩:dP H.length ai ad w β H ai aF w' aI H'/\bU P w' aF aI H' ai/\az P w' aF aI H' (oneOf vs) (if h:g.toArray.size=1 then g.toArray[0]else .tuple g.toArray)/\aD (aH H') (oneOf vs):=by
  rcases a with rfl|⟨a,D⟩
  ·exact⟨m,hs.heap,i,k⟩
  ·refine⟨m.trans (a.fq (β:=aI) (ai:=ai) (ad:=aF) (w:=w')),(a.rel hs).heap,?_,D⟩;rcases a with a|a
   ·have e:H'=s.heap:=by rw[<-a]
    rw[e];exact i
   ·exact az.mono (fun _ x=>x) (fun _ _=>rfl) a.1.step _ _ k i
 refine⟨_,aI,aF,rfl,⟨d.bV,d.fresh,d.ext,d.step.full,k1,fun x hx=>?_,fun b j=>?_⟩,k2,k3⟩
 ·obtain⟨o,n,y⟩:=hx;exact d.fh x (hr.1 n).1 ⟨o,n,y⟩
 ·obtain⟨L,l⟩:=j;exact d.loop b (hr.1 l).1 ⟨L,l⟩
theorem cN.post{n:Nat}{ai ad aF:Nat->Prop}{β aI:Bd}{s:St}{H':Heap}{t:Array c9}{w w':db}(h:cN P n ai ad β s t w)(a:bY P ai ad w β s.heap aF w' aI H'):cN P n ai aF aI ⟨s.env,H'⟩ t w':=
 ⟨a.rel,fun x=>az.mono a.bV (fun k hk=>a.ext.same k (.inr hk)) a.step _ _ (h.gC x) (h.env x),fun x=>aD.mono a.fh _ (h.gC x),h.size⟩
def rY:List Tmp->List AV->Env->Env
 |t::ts,v::vs,e=>rY ts vs ((t,v)::e)
 |_,_,e=>e
def gN:bA->Option Code
 | .normal=>none
 | .exit id=>some (.exit id)
 | .ret=>some .ret
def ug(b:Nat)(K:Heap->AV->Prop)(e:bA)(s:St):Prop:=
 match s.heap[b]? with
 |some (.loop L)=>K (s.heap.set b (.loop {L with st:=if(gN e).isNone then .ready else .done,pending:=gN e})) (.p (.bool (gN e).isNone))
 |_=>False
def zo(P:dl)(ah:ed->Bool)(q:Cx)(b:Nat)(body:Code)(K:Heap->AV->Prop)(e:bA)(s:St):Prop:=
 match e,s.heap[b]? with
 | .normal,some (.loop L)=>L.st=.ready/\cd P ah q body (ug b K) ⟨s.env,s.heap.set b (.loop {L with st:=.busy})⟩
 |_,_=>False
def z7(P:dl)(ah:ed->Bool)(L:ek)(b:Nat)(args:List AV)(H:Heap)(K:Heap->AV->Prop):Prop:=
 cd P ah (L.n,H.length) L.assign (zo P ah (L.n,H.length) b L.body K) ⟨rY L.params args L.env,H⟩
def rN(ts:List Tmp)(a:List c9)(t:Array c9):Array c9:=(ts.zip a).foldl (fun t(p,v)=>t.setIfInBounds p v) t
theorem J0{w:db}{ad:Nat->Prop}{β:Bd}{H:Heap}:∀{ts:List Tmp}{vs:List AV}{xs:List c9}{e:Env}{t:Array c9},(∀x∈ts,x<t.size)->bB P w ad β H vs xs->aV (aH H) vs->(∀x,az P w ad β H (aN e x) (t.getD x undef))->(∀x,aD (aH H) (aN e x))->
 (rN ts xs t).size=t.size/\(∀x,az P w ad β H (aN (rY ts vs e) x) ((rN ts xs t).getD x undef))/\(∀x,aD (aH H) (aN (rY ts vs e) x))
 |[],vs,xs,e,t,_,a,_,b,c=>by
  cases vs<;>exact⟨rfl,b,c⟩
 |p::ts,[],xs,e,t,_,a,_,b,c=>by
  simp only[bB]at a;subst a;exact⟨rfl,b,c⟩
 |p::ts,v::vs,xs,e,t,f,a,d,b,c=>by
  simp only[bB]at a;obtain⟨y,h,rfl,k1,k2⟩:=a;simp only[aV]at d;have g:p<t.size:=f p (by simp);obtain⟨g1,g2,g3⟩:=J0 (ts:=ts) (vs:=vs) (xs:=h) (e:=(p,v)::e) (t:=t.setIfInBounds p y) (fun x hx=>by simpa using f x (by simp[hx])) k2 d.2
   (fun x=>by
    simp only[aN]
    by_cases hx:x=p
    ·subst hx;simp[g];exact k1
    ·simp only[hx,if_false,b3,Array.getElem?_setIfInBounds_ne (Ne.symm hx)];simpa using b x)
   (fun x=>by
    simp only[aN]
    split
    ·exact d.1
    ·exact c x)
  exact⟨by simpa[rN]using g1,g2,g3⟩
theorem zip_toArray(a:List Tmp)(b:List c9)(t:Array c9):(a.toArray.zip b.toArray).foldl (fun t(p,v)=>t.setIfInBounds p v) t=rN a b t:=by
 unfold rN;rw[<-ce];simp
theorem XC(I:l6 P ah)(G:ue P ah fit){b:Nat}{L:ek}{H H':Heap}{args:List AV}{v:AV}(f:H[b]?=some (.loop L))(aB:args.length=L.params.length)(aE:∀x∈L.params,x<L.n)
 (ar:codeOk fit L.n L.assign=true)(hc:codeOk fit L.n L.body=true)(aJ:z7 P ah L b args H (fun af aS=>aS=v/\cV H.length ⟨[],af⟩ ⟨[],H'⟩)):iq P b H args H' v:=by
 refine⟨⟨L,f⟩,fun w ad ai β i B W av=>?_⟩;obtain⟨tmps,defers,fn,ap,M,aq,aW⟩:=B.cC b _ f;have s:b<H.length:=(hr.1 f).1;have ax:=(um W).1;have j:=run_yield (P:=P) (args:=i.toArray) ap (by simp[ax,aB]);obtain⟨q1,aO,aP⟩:=J0 (ts:=L.params) (vs:=args) (xs:=i) (e:=L.env) (t:=tmps) (fun x hx=>by rw[M];exact aE x hx) W av aq (B.refs b _ f);rw[zip_toArray]at j;refine⟨fn,_,_,_,j,fun K ae=>?_⟩;obtain⟨c,z⟩:∃c:dz,c={fn:=fn,tmps:=#[],todo:=[],defers:=[],mode:=.run,kind:=.normal,roundOf:=some (β.al b)}:=⟨_,rfl⟩
 have g:c.roundOf=some (β.al b):=by subst z;rfl
 have A:c.kind=.normal:=by subst z;rfl
 have ay:Frame.round (β.al b) fn (rN L.params i tmps) L.assign L.body .normal=bE c (rN L.params i tmps) [] [.code L.assign,.beginRound,.code L.body]:=by subst z;rfl
 have V:so H.length c β H:=fun l Z=>by
  rw[g]at Z;cases Z;exact⟨b,s,⟨L,f⟩,rfl⟩
 obtain⟨e1,s1,aV,aU,aT,t1,bd,am,g1,ao,g3,g4,g5⟩:=mO (N:=H.length) (fr:=c) (cs:=K::ae) (ds:=[]) I G L.assign [.beginRound,.code L.body] ar aJ ⟨B,aO,aP,q1.trans M⟩ V;unfold zo at g1
 split at g1
 case h_2=>exact g1.elim
 rename_i q Q;obtain⟨g1,g6⟩:=g1;obtain⟨bb,m1,_,_,m4,m5⟩:=g5;have aH:=m5 (by rw[g];rfl);subst aH;obtain rfl:am=[]:=m1;have ak:aT.al b=β.al b:=(g4.step.loop b s ⟨_,f,trivial⟩ ⟨q,Q⟩).2;obtain⟨rec,ac,aQ,aR,a6,a7,a8,a9,ba,D⟩:=DB g3.heap Q .busy q.pending;rw[ak]at ac D;have X:=run_beginRound (P:=P) ac (aQ.trans g1);have aw:({rec with state:=.busy}:Loop)={rec with state:=.busy,pending:=q.pending}:=by rw[<-aR]
 rw[aw]at X;have T:=g4.trans (D.fq (N:=H.length));obtain⟨e2,s2,r,p,m,t2,F,an,k1,k2,k3,k4,k5⟩:=mO (N:=H.length) (fr:=c) (cs:=K::ae) (ds:=[]) I G L.body [] hc g6 (g3.post D) (V.fq T);unfold ug at k1
 split at k1
 case h_2=>exact k1.elim
 rename_i J S;obtain⟨rfl,Y⟩:=k1;obtain⟨bc,aL,_,_,n4,aM⟩:=k5;have aI:=aM (by rw[g];rfl);subst aI;obtain rfl:an=[]:=aL;have aX:∀k,r k->ai k:=fun k hk=>(m4 k ((n4 k hk).resolve_right (by simp))).resolve_right (by simp);have U:=T.trans k4;have al:m.al b=β.al b:=(U.step.loop b s ⟨_,f,trivial⟩ ⟨J,S⟩).2;obtain⟨E,ab,aY,aZ,a0,a1,a3,a4,a5,C⟩:=DB k3.heap S (if(gN e2).isNone then .ready else .done) (gN e2);rw[al]at ab C;have u:=run_endRound (P:=P) (gN e2) ab;have au:=U.trans (C.fq (N:=H.length));have d:=au.trans (Y.fq (β:=m) (ai:=r) (ad:=p) (w:=F.putObj (β.al b) (.loop {E with state:=if(gN e2).isNone then .ready else .done,pending:=gN e2})));refine⟨.bool (gN e2).isNone,F.putObj (β.al b) (.loop {E with state:=if(gN e2).isNone then .ready else .done,pending:=gN e2}),m,p,?_,?_,by simp[az,aC],by simp[aD]⟩
 ·rw[ay];refine hh (ao:eb P _ _) ((hg (stepR_beginRound (b:=c) (a:=⟨t1,[]⟩) g X)).trans ?_);cases e2 with
  |normal=>exact hh (k2:eb P _ _) (.one (stepR_round_end (b:=c) (a:=⟨t2,[]⟩) g A u))
  |exit id=>
   obtain⟨aK,aj,a2⟩:=k2;exact hh a2 (.one (stepR_round_exit (b:=c) (a:=⟨t2,[]⟩) g A (by rw[aj];rfl) u))
  |ret=>
   obtain⟨aK,a2⟩:=k2;exact hh a2 (.one (stepR_round_ret (b:=c) (a:=⟨t2,[]⟩) g A u))
 ·have aF:cN P 0 r p m ⟨[],s2.heap.set b (.loop {J with st:=if(gN e2).isNone then .ready else .done,pending:=gN e2})⟩ #[] (F.putObj (β.al b) (.loop {E with state:=if(gN e2).isNone then .ready else .done,pending:=gN e2})):=
   ⟨C.rel,fun x=>by simp[aN,az,aC],fun x=>by simp[aN,aD],rfl⟩
  have aG:=(Y.rel aF).heap;refine⟨d.bV,d.fresh,d.ext,d.step.full,aG.shut d.ey (R:=fun _=>False) (fun _ h=>h.elim) rfl (fun _ _=>rfl),fun x hx=>?_,fun y j=>?_⟩
  ·obtain⟨o,aa,aA⟩:=hx;exact d.fh x (hr.1 aa).1 ⟨o,aa,aA⟩
  ·obtain⟨ag,O⟩:=j;exact d.loop y (hr.1 O).1 ⟨ag,O⟩
end
section
variable{P:dl}
theorem Mx{w:db}{ad:Nat->Prop}{b:Bool}{v:c9}:aC P w ad (.bool b) v↔v=.bool b:=by simp[aC]
theorem Ef{w:db}{ad:Nat->Prop}{k:en}{n:Int}{v:c9}:aC P w ad (.int k n) v↔v=.int k n:=by simp[aC]
theorem NL{w:db}{ad:Nat->Prop}{s:List Nat}{v:c9}:aC P w ad (.str s) v↔∃bs:ByteArray,v=.string bs/\s=bs.data.toList.map (·.toNat):=by simp[aC]
theorem eE{s:Sem c9}{w:db}{a:c9}(h:s.run P w=.ok a w):(do pure (Next.value (<-s)):Sem Next).run P w=.ok (.value a) w:=by simp[h]
theorem wD{s:Sem c9}{w w':db}{a:c9}(h:s.run P w=.ok a w'):(do pure (Next.value (<-s)):Sem Next).run P w=.ok (.value a) w':=by simp[h]
theorem zd{T:dg}{v:AV}{w:db}{ad:Nat->Prop}{β:Bd}{H:Heap}{cs:List c9}(hk:kindOf P T=aa v)(d:bp P w ad β H v cs):P.cellsOf T=cs.length/\∃i,P.info? T=some i/\i.size=cs.length:=by
 obtain⟨c,a⟩:=nZ d;have b:P.cellsOf T=cs.length:=by
  rw[c,<-hk];unfold kindOf at hk⊢
  split at hk
  ·split at hk<;>rename_i hc
   ·simp at hc;rw[if_pos (by simpa using hc)];simp[bJ,hc.2]
   ·exact(a hk.symm).elim
  ·split at hk<;>rename_i hc
   ·simp at hc;rw[if_pos (by simpa using hc)];simp[bJ,hc]
   ·exact(a hk.symm).elim
  ·split at hk<;>rename_i hc
   ·simp at hc;rw[if_pos (by simpa using hc)];simp[bJ,hc]
   ·exact(a hk.symm).elim
  ·exact(a hk.symm).elim
 refine⟨b,?_⟩;cases hi:P.info? T with
 |none=>
  have:kindOf P T=.bad:=by simp[kindOf,g0,hi]
  rw[this]at hk;exact(a hk.symm).elim
 |some i=>exact⟨i,rfl,by simpa[gy,hi]using b⟩
variable{o:Oper}{ρ:da->AV}{base:Nat}
theorem Rn{x:da}(a:o.op=.move x\/o.op=.assign x):bu P o ρ base {v:=ρ x}:=by
 refine bu.same fun H w ad ai β c d b _=>?_;refine⟨c x,?_,b x ?_⟩
 ·rcases a with a|a<;>simp[dk,a]
 ·rcases a with a|a<;>simp[a,gj]
theorem aFb{c a b:da}{t:Bool}(d:o.op=.pick c a b)(hc:ρ c=.p (.bool t)):bu P o ρ base {v:=if t then ρ a else ρ b}:=by
 refine bu.same fun H w ad ai β g h f _=>?_;have e:=(f c (by simp[d,gj])).1;rw[hc]at e;simp only[az,Mx]at e;refine⟨if t then g a else g b,by simp[dk,d,e,asBool],?_⟩;cases t with
 |true=>exact f a (by simp[d,gj])
 |false=>exact f b (by simp[d,gj])
theorem J4{t:da}{i:Nat}{vs:List AV}{v:AV}(h:o.op=.extract t i)(e:ρ t=.aE vs\/∃l,ρ t=.p (.aE l)/\vs=l.map .p)(hi:vs[i]?=some v):bu P o ρ base {v}:=by
 refine bu.same fun H w ad ai β k n j _=>?_;obtain⟨d,f⟩:=j t (by simp[h,gj]);obtain⟨c,k1,k2,k3⟩:∃c,bB P w ad β H vs c/\k t=.tuple c.toArray/\aV (aH H) vs:=by
  rcases e with e|⟨l,e,rfl⟩
  ·rw[e]at d f;simp only[az,aD]at d f;obtain⟨c,a,b⟩:=d;exact⟨c,a,b,f⟩
  ·rw[e]at d;simp only[az,aC]at d;obtain⟨c,a,b⟩:=d;exact⟨c,jw.2 a,b,jb _ _⟩
 obtain⟨g1,g2⟩:=um k1;have m:i<vs.length:=(hr.1 hi).1;have hx:c[i]?=some (c[i]'(by omega)):=hz (by omega);have g:=g2 i;rw[hi,hx]at g;refine⟨c[i]'(by omega),?_,by simpa using g,cJ.1 k3 v (hF hi)⟩;simp only[dk,h,Instr.extract,k2];simp[hx]
theorem aE7{c:BinOp}{T j:dg}{x y:da}{k d:en}{a b:Int}{K:PV->Prop}(g:o.op= .binOp c T x y j)(hx:ρ x= .p (.int k a))(t:ρ y= .p (.int d b))(hk:k=d\/c= .shl\/c= .shr)
 (h:qG c k a b K)(ak:List (Nat×Obj)):∃v,K v/\bu P o ρ base {v:=.p v,ak}:=by
 have key:∀v,K v->(∀w:db,(binOp c T (.int k a) (.int d b)).run P w= .ok (match v with| .int k n=> .int k n| .bool b=> .bool b|_=>undef) w)->(∀w ad,aC P w ad v (match v with| .int k n=> .int k n| .bool b=> .bool b|_=>undef))->
  ∃v,K v/\bu P o ρ base {v:=.p v,ak}:=by
  intro v s r q;refine⟨v,s,bu.same fun H w ad ai β z u i _=>?_⟩;have e:=(i x (by simp[g,gj])).1;have f:=(i y (by simp[g,gj])).1;rw[hx]at e;rw[t]at f;simp only[az,Ef]at e f;refine⟨_,?_,by simp only[az];exact q w ad,by simp[aD]⟩;simp only[dk,g,e,f];refine eE ?_;have m:(eqGuard c T x y (.int k a) (.int d b)).run P w=.ok () w:=by
   unfold eqGuard
   split<;>simp
  simp[m,r w]
 cases c<;>simp only[qG]at h
 case add|sub|mul|and|or|xor|andNot|eql|neq|lss|leq|gtr|geq=>
  obtain rfl:k=d:=by rcases hk with h|h|h<;>first|exact h|cases h
  exact key _ h (fun w=>by simp[binOp,gt,gx,Op.intCmp]) (fun w ad=>by simp[aC])
 case quo|rem=>
  obtain rfl:k=d:=by rcases hk with h|h|h<;>first|exact h|cases h
  exact key _ h.2 (fun w=>by simp[binOp,Op.intDiv,h.1]) (fun w ad=>by simp[aC])
 case shl|shr=>
  have l:¬b<0:=by omega
  exact key _ h.2 (fun w=>by simp[binOp,Op.shift,l]) (fun w ad=>by simp[aC])
theorem FF{u:UnOp}{T:dg}{x:da}{v r:PV}(c:o.op= .unOp u T x)(hx:ρ x= .p v)
 (h:(u=.not/\∃b,v=.bool b/\r=.bool (!b))\/(u=.neg/\∃k n,v=.int k n/\r=.int k (k.wrap (0-n)))\/
  (u=.xor/\∃k n,v=.int k n/\r=.int k (k.wrap (BitVec.ofInt k.bits (if k.signed then -1 else k.max)^^^BitVec.ofInt k.bits n).toNat))):bu P o ρ base {v:=.p r}:=by
 refine bu.same fun H w ad ai β f e d _=>?_;have a:=(d x (by simp[c,gj])).1;rw[hx]at a;simp only[az]at a;rcases h with⟨rfl,b,rfl,rfl⟩|⟨rfl,k,n,rfl,rfl⟩|⟨rfl,k,n,rfl,rfl⟩
 ·rw[Mx]at a;exact⟨_,by simp only[dk,c,a];exact eE (by simp[gm];rfl),by simp[az,aC],by simp[aD]⟩
 ·rw[Ef]at a;exact⟨_,by simp only[dk,c,a];exact eE (by simp[gm,gt];rfl),by simp[az,aC],by simp[aD]⟩
 ·rw[Ef]at a;exact⟨_,by simp only[dk,c,a];exact eE (by simp[gm,gx];rfl),by simp[az,aC],by simp[aD]⟩
end
section
variable{P:dl}{w:db}{ad ai:Nat->Prop}{β:Bd}{H:Heap}
variable{o:Oper}{ρ:da->AV}{base:Nat}
theorem lY(H:Heap)(b:Nat)(o':Obj):bf H ([]++newAt b [o'])=H.set b o':=rfl
theorem WB{x:AV}{T:dg}(hs:aa x≠ .bad)(hx:ji T (aa x)=true)(hrefs:∀(H:Heap)(w:db)(ad ai:Nat->Prop)(β:Bd)(d:da->c9),bU P w ad β H ai->
 (∀y∈o.op.operands,az P w ad β H (ρ y) (d y)/\aD (aH H) (ρ y))->∃a,az P w ad β H x a/\aD (aH H) x/\
  (dk d o).run P w=.ok (.value (.pointer (some ⟨w.heap.size,0,none⟩))) {w with heap:=w.heap.push (.cells a.cells T)}):
 bu P o ρ base {v:=.ptr base [],aU:=[.box false x]}:=by
 intro H w ad ai β d b m _ j;obtain⟨a,f,e,g⟩:=hrefs H w ad ai β d b m;have c:H[base]?=some .hole:=by simpa using j 0 (by simp)
 have i:=zB f hs;have aK:=zM (β:=β) c (.box false x) w.heap.size 0;have ak:∀y,aH H y->aH (H.set base (.box false x)) y:=mg c (fun _ h=>h.elim);have l:=uh (cap:=0) b c (ob:=.cells a.cells T) (o':=.box false x)
  ⟨a.cells,T,by simp[Bd.at],bp.mono (fun _ x=>x) (fun k hk=>wP _ _ (b.bV k hk)) aK _ _ e i,by
   simp only[cz,Bd.at,if_true,cx,if_false];exact⟨fun h=>h8 _ (b.bV _ h),fun h=>h8 _ (b.ey _ h)⟩,by simp,hx⟩ (aD.mono ak _ e)
 refine⟨_,_,_,_,ad,g,.inl rfl,l,?_,?_⟩
 ·simp only[az,bN,bR,lY];exact⟨rfl,_,_,0,rfl,rfl,fun _=>by simp[Bd.at]⟩
 ·simp only[aD,lY];exact⟨.box false x,by simp only;rw[hv (hr.1 c).1],trivial⟩
theorem aE4{T:dg}{x:da}(a:o.op=.box T x)(hs:aa (ρ x)≠.bad)(hx:ji T (aa (ρ x))=true):bu P o ρ base {v:=.ptr base [],aU:=[.box false (ρ x)]}:=by
 refine WB (T:=T) hs hx fun H w ad ai β e f d=>?_;obtain⟨b,c⟩:=d x (by simp[a,gj]);refine⟨e x,b,c,?_⟩;simp only[dk,a];simp[Instr.box,newVar,newRow]
theorem Cv{w:db}{ad:Nat->Prop}:∀(n:Nat)(T:dg)(cs:List c9)(t:PV),uM P n T cs=some t->aS P w ad t cs/\kindOf P T=aM t
 |0,_,_,_,h=>by simp[uM]at h
 |n+1,T,cs,t,h=>by
  have go:∀(b:List dg)(l:List Nat)(cs:List c9)(fs:List PV),qg P (uM P n) b l cs=some fs->∃a,bd P w ad l fs a/\a.flatten=cs:=by
   intro b
   induction b with
   |nil=>
    intro l cs fs h;cases l with
    |nil=>
     cases cs with
     |nil=>simp[qg]at h;subst h;exact⟨[],by simp[bd]⟩
     |cons c cs=>simp[qg]at h
    |cons s i=>simp[qg]at h
   |cons T b q=>
    intro l cs fs h;cases l with
    |nil=>simp[qg]at h
    |cons s i=>
     simp only[qg]at h
     split at h
     case isFalse=>simp at h
     rename_i m
     split at h
     case h_2=>simp at h
     rename_i v vs g p
     split at h
     case isFalse=>simp at h
     rename_i r;simp at h;subst h;obtain⟨e,_⟩:=Cv n T _ v g;obtain⟨a,f,j⟩:=q i _ vs p;refine⟨cs.take s::a,by simp only[bd];exact⟨_,_,rfl,e,m,f⟩,?_⟩;simp[j]
  unfold uM at h
  split at h
  ·rename_i hk
   split at h
   case h_2=>simp at h
   rename_i c
   split at h
   ·simp at h
   ·rename_i v o;simp at h;subst h;have g:=Jh (P:=P) (w:=w) (ad:=ad) c;have d:aM (ofConst c)=.leaf:=by
     unfold ofConst at o⊢
     split<;>simp_all [aM]
    exact⟨(uk d _).2 ⟨c,rfl,g⟩,by rw[hk,d]⟩
  ·rename_i u hk
   split at h
   case h_2=>simp at h
   rename_i l d
   split at h
   case h_2=>simp at h
   rename_i fs k;simp at h;subst h;obtain⟨a,e,f⟩:=go _ _ _ _ k;refine⟨by simp only[aS];exact⟨l,a,d,e,f.symm⟩,by simp[aM,hk]⟩
  ·simp at h
theorem pQ{T:dg}{z:PV}(h:cO P T=some z):∃i a,P.info? T=some i/\i.zero=some a/\(∀(w:db)(ad:Nat->Prop),aS P w ad z a.cells.toList)/\kindOf P T=aM z:=by
 unfold cO at h;cases hi:P.info? T with
 |none=>simp[hi]at h
 |some i=>
  simp only[hi,iL]at h;cases b:i.zero with
  |none=>simp[b]at h
  |some a=>
   simp only[b]at h
   split at h
   case isFalse=>simp at h
   exact⟨i,a,rfl,b,fun w ad=>(Cv 40 T _ z h).1,(Cv (w:=default) (ad:=fun _=>True) 40 T _ z h).2⟩
theorem MH{T:dg}{z:PV}(h:cO P T=some z):∃a,(∀w:db,(zeroValue T).run P w=.ok a w)/\∀(w:db)(ad:Nat->Prop),aC P w ad z a:=by
 obtain⟨i,a,d,e,f,g⟩:=pQ h;refine⟨a,fun w=>by simp[zeroValue,typeInfo,d,e],fun w ad=>?_⟩;have b:A7 a (aM z)=true:=by
  unfold cO at h;simp only[d,iL,e]at h
  split at h
  ·rename_i j;rw[<-g];exact j
  ·simp at h
 have hc:=f w ad;cases hs:aM z with
 |bad=>exact((nV hc).2 hs).elim
 |leaf=>
  rw[hs]at b;obtain⟨c,k1,k2⟩:=(uk hs _).1 hc;cases a<;>simp[A7]at b<;>(simp[hn]at k1;subst k1;exact k2)
 |agg u=>
  rw[hs]at b;cases a<;>simp[A7]at b;have:=(xy hs _).1 hc;simpa[hn]using this
theorem uf{T:dg}{i:dq}{a:c9}(h:P.info? T=some i)(b:i.zero=some a)(w:db):(zeroValue T).run P w=.ok a w:=by
 simp[zeroValue,typeInfo,h,b]
theorem XP{T:dg}{z:PV}(j:o.op=.alloc T)(m:cO P T=some z)(hx:ji T (aM z)=true):bu P o ρ base {v:=.ptr base [],aU:=[.box false (.p z)]}:=by
 obtain⟨i,b,d,e,f,q⟩:=pQ m;intro H w ad ai β n a r _ g;have c:H[base]?=some .hole:=by simpa using g 0 (by simp)
 have l:(dk n o).run P w=.ok (.value (.pointer (some ⟨w.heap.size,0,none⟩))) {w with heap:=w.heap.push (.cells b.cells T)}:=by
  simp only[dk,j];simp[Instr.alloc,uf d e,newVar,newRow]
 have k:=uh (cap:=0) a c (ob:=.cells b.cells T) (o':=.box false (.p z))
  ⟨b.cells,T,by simp[Bd.at],by simp only[bp];exact f _ _,by
   simp only[cz,Bd.at,if_true,cx,if_false];exact⟨fun h=>h8 _ (a.bV _ h),fun h=>h8 _ (a.ey _ h)⟩,by simp,by simpa[aa]using hx⟩ (by simp[Obj.refs,aD])
 refine⟨_,_,_,_,ad,l,.inl rfl,k,?_,?_⟩
 ·simp only[az,bN,bR,lY];exact⟨rfl,_,_,0,rfl,rfl,fun _=>by simp[Bd.at]⟩
 ·simp only[aD,lY];exact⟨.box false (.p z),by simp only;rw[hv (hr.1 c).1],trivial⟩
theorem DS{T:dg}{a:da}{v:AV}(h:o.op= .load T a){d:da->c9}{al off:Nat}{c:List c9}(g:d a= .pointer (some ⟨al,off,none⟩))(hk:kindOf P T=aa v)
 (i:bp P w ad β H v c)(hc:gL w al off c):∃b,(dk d o).run P w=.ok (.value b) w/\az P w ad β H v b:=by
 obtain⟨b,e,f⟩:=I7 hk i hc;refine⟨b,?_,f⟩;simp only[dk,h,Instr.loadAt,g,fZ];simp[e]
theorem AR{aj:Nat}{d:List AV}{g:List (List c9)}(h:Row P w ad β H aj d g){i:Nat}(hi:i<d.length):
 ∃a c post,g.flatten=a++c++post/\a.length=i*aj/\c.length=aj/\bp P w ad β H d[i] c/\
  ∀e c',bp P w ad β H e c'->c'.length=c.length->∃b,b.flatten=a++c'++post/\Row P w ad β H aj (d.set i e) b:=by
 obtain⟨a,c,post,j,k,o,f,l,m⟩:=uy h (hz hi);have n:c.length=aj:=by
  rw[hB]at f;rw[if_pos hi]at f;simpa using f.symm
 refine⟨a,c,post,j,?_,n,l,?_⟩
 ·rw[k,hy,h7 (by omega),hw]
 ·intro e c' hf hc;obtain⟨b,k1,k2⟩:=m e c' hf hc;exact⟨b,k1,by unfold Row;rw[List.length_set];exact k2⟩
theorem aE9{T:dg}{a:da}(g:o.op= .load T a){H0:Heap}{K:aY->Prop}(h:ow P T H0 (ρ a) K):
 ∃e,K e/\bu P o ρ base e/\(∀p∈e.ak,H0[p.1]?=some p.2)/\(∀p∈e.aJ,p.1<H0.length/\p.2≠.hole):=by
 unfold ow at h
 split at h
 ·rename_i b J m
  split at h
  case h_2=>exact h.elim
  rename_i fz t u
  split at h
  case h_2=>exact h.elim
  rename_i s hs;obtain⟨hk,h⟩:=h;refine⟨_,h,bu.same fun H w ad ai β C j n ak=>?_,by simpa using u,by simp⟩;obtain⟨d,y⟩:=n a (by simp[g,gj]);rw[m]at d;simp only[az,bN,bR]at d;have f:H[b]?=some (.box fz t):=by simpa using ak
  obtain⟨_,E,I,B,x,r,d⟩:=d;obtain⟨rfl,rfl⟩:=d (.inl ⟨fz,t,f⟩);obtain⟨cs,D,k1,k2,k3,k4⟩:=j.cC b _ f;obtain⟨pre,xs,post,e1,e2,e3,_⟩:=ql k2 hs r;obtain⟨l,g1,g2⟩:=DS g x hk e3 (by rw[<-e2];exact l8 k1 e1);exact⟨l,g1,g2,wZ hs (j.refs b _ f)⟩
 ·rename_i b aw aj i J m
  split at h
  case h_2=>exact h.elim
  rename_i k W S q u;obtain⟨rfl,rfl,hi,h⟩:=h
  split at h
  case h_2=>exact h.elim
  rename_i s hs;obtain⟨hk,h⟩:=h;refine⟨_,h,bu.same fun H w ad ai β C j n ak=>?_,by simpa using u,by simp⟩;obtain⟨d,y⟩:=n a (by simp[g,gj]);rw[m]at d;simp only[az,bN,bR]at d;have f:H[b]?=some (.arr k aw aj q):=by simpa using ak
  have A:¬df k q:=fun G=>by rw[G.2]at hi;simp at hi
  obtain⟨_,E,I,B,x,r,d⟩:=d;obtain⟨rfl,rfl⟩:=d k q f A;rcases j.cC b _ f with hold|⟨cs,D,R,rest,k1,k2,k3,_⟩
  ·exact(A hold).elim
  obtain⟨M,c,L,N,O,U,Q,_⟩:=AR k2 hi;obtain⟨pre,xs,post,e1,e2,e3,_⟩:=ql Q hs r;have F:gL w (β.al b) (i*aj+B) xs:=by
   have:cs.toList=(M++pre)++xs++(post++L++rest):=by rw[k3,N,e1];simp
   have z:=l8 k1 this;rw[List.length_append,O,e2]at z;exact z
  obtain⟨l,g1,g2⟩:=DS g x hk e3 F;exact⟨l,g1,g2,wZ hs (cJ.1 (j.refs b _ f) _ (hZ hi))⟩
 ·rename_i t m;obtain⟨hk,h⟩:=h;refine⟨_,h,bu.same fun H w ad ai β C j n ak=>?_,by simp,by simp⟩;obtain⟨d,y⟩:=n a (by simp[g,gj]);rw[m]at d;simp only[az,aC]at d;obtain⟨al,off,V,k1,k2,k3,k4⟩:=d;obtain⟨l,g1,g2⟩:=DS (β:=β) (H:=H) (v:=.p t) g k4 (by simpa[aa]using hk) (by simpa only[bp]using k1) k3;exact⟨l,g1,g2,by simp[aD]⟩
 ·exact h.elim
end
section
variable{P:dl}{w:db}{ad ai:Nat->Prop}{β:Bd}{H:Heap}
mutual
theorem NO:∀{v:PV}{cs:List c9},aS P w ad v cs->∀c∈cs,c.oneCell'=true
 | .undef,_,h| .aE _,_,h=>by simp[aS]at h
 | .bool _,_,h| .int _ _,_,h| .dJ,_,h| .aW,_,h| .fC,_,h| .ig,_,h| .fV,_,h=>by simp only[aS]at h;subst h;simp[hl]
 | .str _,_,h=>by simp only[aS]at h;obtain⟨_,rfl,_⟩:=h;simp[hl]
 | .cw _,_,h=>by simp only[aS]at h;obtain⟨_,_,_,_,_,_,rfl⟩:=h;simp[hl]
 | .bP _ _,_,h=>by simp only[aS]at h;obtain⟨_,_,_,_,_,_,_,_,_,_,_,_,rfl⟩:=h;simp[hl]
 | .seq _,_,h=>by simp only[aS]at h;rcases h with⟨_,rfl⟩|⟨_,_,_,_,_,_,_,_,_,_,_,rfl⟩<;>simp[hl]
 | .fg _,_,h=>by simp only[aS]at h;obtain⟨_,_,_,_,_,_,rfl⟩:=h;simp[hl]
 | .func _ _ _,_,h=>by simp only[aS]at h;obtain⟨_,_,_,_,rfl⟩:=h;simp[hl]
 | .st u fs,_,h=>by
  simp only[aS]at h;obtain⟨l,a,b,d,rfl⟩:=h;exact Mz d
theorem Mz:∀{l:List Nat}{vs:List PV}{a:List (List c9)},bd P w ad l vs a->∀c∈a.flatten,c.oneCell'=true
 |[],[],_,h=>by simp only[bd]at h;subst h;simp
 |[],_::_,_,h=>by simp[bd]at h
 |_::_,[],_,h=>by simp[bd]at h
 |n::f,v::vs,a,h=>by
  simp only[bd]at h;obtain⟨c,cs,rfl,b,d,e⟩:=h;intro x hx;simp only[hC,hE]at hx;exact hx.elim (NO b x) (Mz e x)
end
mutual
theorem Aj:∀{v:AV}{cs:List c9},bp P w ad β H v cs->∀c∈cs,c.oneCell'=true
 | .p t,_,h=>by simp only[bp]at h;exact NO h
 | .ptr ..,_,h| .b7 ..,_,h| .sl ..,_,h| .map ..,_,h=>by simp only[bp]at h;obtain⟨v,rfl,b,_⟩:=h;simpa using b
 | .func ..,_,h=>by simp only[bp]at h;obtain⟨_,_,_,_,rfl⟩:=h;simp[hl]
 | .aE _,_,h=>by simp[bp]at h
 | .st u fs,_,h=>by
  simp only[bp]at h;obtain⟨l,a,b,d,rfl⟩:=h;exact MA d
theorem MA:∀{l:List Nat}{vs:List AV}{a:List (List c9)},bM P w ad β H l vs a->∀c∈a.flatten,c.oneCell'=true
 |[],[],_,h=>by simp only[bM]at h;subst h;simp
 |[],_::_,_,h=>by simp[bM]at h
 |_::_,[],_,h=>by simp[bM]at h
 |n::f,v::vs,a,h=>by
  simp only[bM]at h;obtain⟨c,cs,rfl,b,d,e⟩:=h;intro x hx;simp only[hC,hE]at hx;exact hx.elim (Aj b x) (MA e x)
end
theorem rp(d:bU P w ad β H ai){b:Nat}{o o':Obj}(c:H[b]?=some o)(j:o.live)(l:o'.live)(m:∀v,o.has v->o'.has v){q new:Array c9}{T:dg}
 (i:w.heap[β.al b]?=some (.cells q T (0,0)))(e:¬ad (β.al b)/\¬ai (β.al b))(aK:cj β H β (H.set b o'))
 (n:fk P (w.setRow (β.al b) new) ad β (H.set b o') ai b o')(p:o'.refs (aH (H.set b o'))):
 bY P ai ad w β H ad (w.setRow (β.al b) new) β (H.set b o'):=by
 refine bY.set d (hr.1 c).1 (fun _ _=>⟨rfl,rfl⟩) (fun _ x=>x) (fun _ x=>.inl x) (fun k hk=>by rw[eq];exact d.bV k hk) (by rw[eq];exact h6 _)
  (fun k hk _=>ei w _ k _ (hk.resolve_right (fun h=>h l))) (fun _=>.inr ⟨rfl,⟨o,c,j⟩,.inr e.1,e.2⟩) aK n p (fun r v a f=>by rw[c]at a;cases a;exact m v f) (fun L g=>by obtain⟨_,_,_,a,_⟩:=d.cC b _ g;rw[i]at a;cases a)
theorem pZ{b:Nat}{o o':Obj}(l:H[b]?=some o)(hk:(∃f g t B,o= .box f t/\o'= .box g B)\/(∃k v z e m,o= .arr k v z e/\o'= .arr k v z m/\e.length=m.length)\/(∃f g e m,o= .map f e/\o'= .map g m)\/(∃s p y,o= .dA s p/\o'= .dA s y)):
 cj β H β (H.set b o'):=by
 have u:b<H.length:=(hr.1 l).1;have j:∀x,x≠b->(H.set b o')[x]?=H[x]?:=fun x hx=>hG (Ne.symm hx);have i:(H.set b o')[b]?=some o':=hv u;refine⟨?_,?_,?_,?_,?_⟩
 ·rintro x _ ⟨fz,t,h⟩;refine⟨?_,rfl⟩
  by_cases hx:x=b
  ·subst hx;rw[i]at h;cases h;rcases hk with⟨f,g,t1,t2,c,a⟩|⟨_,_,_,_,_,_,a,_⟩|⟨_,_,_,_,_,a⟩|⟨_,_,_,_,a⟩
   ·exact⟨f,t1,by rw[l,c]⟩
   all_goals cases a
  ·rw[j x hx]at h;exact⟨fz,t,h⟩
 ·rintro x _ ⟨s,p,h⟩;refine⟨?_,rfl⟩
  by_cases hx:x=b
  ·subst hx;rw[i]at h;cases h;rcases hk with⟨f,g,t1,t2,c,a⟩|⟨_,_,_,_,_,_,a,_⟩|⟨_,_,_,_,_,a⟩|⟨s1,n,A,c,a⟩
   ·cases a
   ·cases a
   ·cases a
   ·exact⟨s1,n,by rw[l,c]⟩
  ·rw[j x hx]at h;exact⟨s,p,h⟩
 ·rintro x _ ⟨w,h,d⟩;refine⟨?_,rfl⟩
  by_cases hx:x=b
  ·subst hx;rw[i]at h;cases h;rcases hk with⟨f,g,t1,t2,c,a⟩|⟨_,_,_,_,_,_,a,_⟩|⟨f,g,e1,e2,c,a⟩|⟨s1,n,A,c,a⟩
   ·rw[a]at d;exact d.elim
   ·rw[a]at d;exact d.elim
   ·exact⟨o,l,by rw[c];trivial⟩
   ·rw[a]at d;exact d.elim
  ·rw[j x hx]at h;exact⟨w,h,d⟩
 ·intro x aw aj k e _ h
  by_cases hx:x=b
  ·subst hx;unfold eS at h⊢;rw[i]at h;cases h;rcases hk with⟨f,g,t1,t2,c,a⟩|⟨k0,v,z,q,C,c,a,r⟩|⟨_,_,_,_,_,a⟩|⟨_,_,_,_,a⟩
   ·cases a
   ·cases a;refine⟨k,q,by rw[l,c],by omega,?_,fun _=>⟨rfl,rfl⟩⟩;unfold df;rw[<-hA,<-hA,r]
   ·cases a
   ·cases a
  ·unfold eS at h⊢;rw[j x hx]at h;exact⟨k,e,h,h6 _,Iff.rfl,fun _=>⟨rfl,rfl⟩⟩
 ·rintro x _ ⟨L,h⟩;refine⟨?_,rfl⟩
  by_cases hx:x=b
  ·subst hx;rw[i]at h;cases h;rcases hk with⟨f,g,t1,t2,c,a⟩|⟨_,_,_,_,_,_,a,_⟩|⟨_,_,_,_,_,a⟩|⟨_,_,_,_,a⟩<;>cases a
  ·rw[j x hx]at h;exact⟨L,h⟩
variable{o:Oper}{ρ:da->AV}{base:Nat}
theorem Ke{T:dg}{a x:da}(p:o.op= .store T a x){e:da->c9}{al off:Nat}{b:List c9}{d:Array c9}{f:dg}(j:e a= .pointer (some ⟨al,off,none⟩))
 (hx:(e x).cells.toList=b)(q:P.cellsOf T=b.length/\∃i,P.info? T=some i/\i.size=b.length)(k:w.heap[al]?=some (.cells d f (0,0)))(n:∀c∈b,c.oneCell'=true)(m:off+b.length<=d.size):
 (dk e o).run P w=.ok .skip (w.setRow al (d.toList.take off++b++d.toList.drop (off+b.length)).toArray):=by
 obtain⟨_,i,hi,l⟩:=q;have h:(sizeOf T).run P w=.ok b.length w:=by simp[sizeOf,typeInfo,hi,l]
 have g:=em (P:=P) al off f b 0 d w k (by simpa using m) n;simp only[h9]at g;have r:(e x).cells.size=b.length:=by rw[<-hx];simp
 simp only[dk,p,Instr.storeAt,j,fZ];simp[storeVar,h,r,hx,g]
theorem C2(u:dg)(fs:List AV):aa (gW u fs)=.agg u:=by
 unfold gW;split<;>rfl
theorem Xf{t:AV}{c:List (dg×Nat)}{x s d:AV}(hs:eZ t c=some s)(a:fQ t c x=some d)(e:aa s=aa x):aa d=aa t:=by
 cases c with
 |nil=>
  simp only[fQ,i1]at a;subst a;have:s=t:=by
   cases t<;>simp[eZ]at hs<;>exact hs.symm
  rw[<-e,this]
 |cons p r=>
  obtain⟨u,i⟩:=p;cases t<;>simp only[fQ]at a
  case p t=>
   split at a
   case isFalse=>simp at a
   rename_i b
   split at a
   case h_2=>simp at a
   split at a
   case h_2=>simp at a
   simp only[i1]at a;subst a;rw[C2];simp[aa,b]
  case st u' fs=>
   split at a
   case isFalse=>simp at a
   rename_i b
   split at a
   case h_2=>simp at a
   split at a
   case h_2=>simp at a
   simp only[i1]at a;subst a;rw[C2];simp[aa,b]
  all_goals simp at a
theorem Yp{T:dg}{a x:da}(z:o.op= .store T a x){H0:Heap}{K:aY->Prop}(h:n9 P T H0 (ρ a) (ρ x) K):
 ∃e,K e/\bu P o ρ base e/\(∀p∈e.ak,H0[p.1]?=some p.2)/\(∀p∈e.aJ,p.1<H0.length/\p.2≠.hole):=by
 unfold n9 at h;obtain⟨hk,ab,h⟩:=h
 split at h
 ·rename_i b ap N
  split at h
  case h_2=>exact h.elim
  rename_i t B
  split at h
  case h_2=>exact h.elim
  rename_i s j hs r;obtain⟨J,h⟩:=h;refine⟨_,h,?_,by simpa using B,by simpa using(hr.1 B).1⟩;intro H w ad ai β f l D ak _;have d:H[b]?=some (.box false t):=by simpa using ak
  obtain⟨g,_⟩:=D a (by simp[z,gj]);obtain⟨aa,M⟩:=D x (by simp[z,gj]);rw[N]at g;simp only[az,bN,bR]at g;obtain⟨_,al,Z,L,W,U,g⟩:=g;obtain⟨rfl,rfl⟩:=g (.inl ⟨false,t,d⟩);obtain⟨cs,A,k1,k2,k3,k4⟩:=l.cC b _ d;obtain⟨pre,xs,post,e1,e2,e3,e4⟩:=ql k2 hs U;have m:=zB aa ab;have q:(f x).cells.toList.length=xs.length:=by rw[(nZ m).1,(nZ e3).1,J]
  have ae:cs.size=pre.length+xs.length+post.length:=by
   have:=congrArg hL e1;simp at this;omega
  have C:=Ke z W rfl (zd hk m) k1 (Aj m) (by omega);have aU:(cs.toList.take Z++(f x).cells.toList++cs.toList.drop (Z+(f x).cells.toList.length))=pre++(f x).cells.toList++post:=by
   rw[e1,q,<-e2];simp
  rw[aU]at C;have aK:cj β H β (H.set b (.box false j)):=pZ d (.inl ⟨_,_,_,_,rfl,rfl⟩);have Q:∀y,aH H y->aH (H.set b (.box false j)) y:=mg d (fun _ h=>h);have X:∀k,ad k->(w.setRow (β.al b) (pre++(f x).cells.toList++post).toArray).heap[k]?=w.heap[k]?:=fun k S=>ei w _ k _ (fun O=>k3.1 (O▸S));have V:=rp l d trivial (o':=.box false j) trivial (fun _ h=>h) k1 (new:=(pre++(f x).cells.toList++post).toArray) k3 aK
   ⟨_,A,ew w _ _ _ A _ k1,bp.mono (fun _ x=>x) X aK _ _ (w8 r (l.refs b _ d) M) (e4 _ _ _ r m q),k3,by simp,by rw[Xf hs r J];exact k4.2⟩
   (aD.mono Q _ (w8 r (l.refs b _ d) M))
  exact⟨_,_,_,β,ad,C,.inr ⟨rfl,rfl⟩,V,by simp[az,aC,bw,undef],by simp[aD]⟩
 ·rename_i b aw aj i ap N
  split at h
  case h_2=>exact h.elim
  rename_i k aB ay n B;obtain⟨rfl,rfl,ag,hi,h⟩:=h
  split at h
  case h_2=>exact h.elim
  rename_i s j hs r;obtain⟨J,h⟩:=h;refine⟨_,h,?_,by simpa using B,by simpa using(hr.1 B).1⟩;intro H w ad ai β f l D ak _;have d:H[b]?=some (.arr k aw aj n):=by simpa using ak
  obtain⟨g,_⟩:=D a (by simp[z,gj]);obtain⟨aa,M⟩:=D x (by simp[z,gj]);rw[N]at g;simp only[az,bN,bR]at g;have I:¬df k n:=fun G=>by rw[G.2]at hi;simp at hi
  obtain⟨_,al,Z,L,W,U,g⟩:=g;obtain⟨rfl,rfl⟩:=g k n d I;rcases l.cC b _ d with hold|⟨cs,A,ax,rest,k1,k2,k3,k4,k5,k6,k7,k8⟩
  ·exact(I hold).elim
  have af:¬ad (β.al b)/\¬ai (β.al b):=by
   unfold cz at k7;rw[if_neg (by simpa using ag)]at k7;exact k7
  obtain⟨u,c,F,aq,ar,aA,au,av⟩:=AR k2 hi;obtain⟨pre,xs,post,e1,e2,e3,e4⟩:=ql au hs U;have m:=zB aa ab;have q:(f x).cells.toList.length=xs.length:=by rw[(nZ m).1,(nZ e3).1,J]
  have ac:cs.toList=(u++pre)++xs++(post++F++rest):=by rw[k3,aq,e1];simp
  have ae:cs.size=(u++pre).length+xs.length+(post++F++rest).length:=by
   have:=congrArg hL ac;simp at this⊢;omega
  have ao:(u++pre).length=i*aj+L:=by simp[ar,e2]
  have C:=Ke z W rfl (zd hk m) k1 (Aj m) (by omega);have aU:(cs.toList.take (i*aj+L)++(f x).cells.toList++cs.toList.drop (i*aj+L+(f x).cells.toList.length))=(u++pre)++(f x).cells.toList++(post++F++rest):=by
   rw[ac,q,<-ao,hD (u++pre),List.take_left',List.drop_append,hD]
   ·simp
   ·rfl
  rw[aU]at C;obtain⟨am,c1,c2⟩:=av j _ (e4 _ _ _ r m q) (by rw[e1];simp[q]);have aK:cj β H β (H.set b (.arr k aw aj (n.set i j))):=pZ d (.inr (.inl ⟨_,_,_,_,_,rfl,rfl,by simp⟩));have Q:∀y,aH H y->aH (H.set b (.arr k aw aj (n.set i j))) y:=mg d (fun _ h=>h);have an:¬df k (n.set i j):=fun G=>I ⟨G.1,by have:=G.2;rw[List.set_eq_nil_iff]at this;exact this⟩;have ah:aV (aH H) (n.set i j):=by
   rw[cJ];intro v Y;rcases hM Y with Y|rfl
   ·exact cJ.1 (l.refs b _ d) v Y
   ·exact w8 r (cJ.1 (l.refs b _ d) _ (hZ hi)) M
  have X:∀E,ad E->(w.setRow (β.al b) ((u++pre)++(f x).cells.toList++(post++F++rest)).toArray).heap[E]?=w.heap[E]?:=fun E S=>ei w _ E _ (fun O=>af.1 (O▸S));have V:=rp l d I (o':=.arr k aw aj (n.set i j)) an (fun _ h=>h) k1 (new:=((u++pre)++(f x).cells.toList++(post++F++rest)).toArray) af aK
   (.inr ⟨_,A,am,rest,ew w _ _ _ A _ k1,bM.mono (fun _ x=>x) X aK _ _ _ ah c2,by rw[c1];simp,by
    rw[<-k4,ae];simp[q];omega,by simpa using k5,fun R=>by rw[k6 R];simp,k7,(fun R=>(ag R).elim),k8.2⟩)
   (aV.mono Q _ ah)
  exact⟨_,_,_,β,ad,C,.inr ⟨rfl,rfl⟩,V,by simp[az,aC,bw,undef],by simp[aD]⟩
 ·exact h.elim
end
section
variable{P:dl}{w:db}{ad ai:Nat->Prop}{β:Bd}{H:Heap}
theorem Cq(P:dl)(T:dg):P.underlying T=(P.info? (P.underlyingId T)).map (fun i:dq=>i.desc):=by
 unfold g0 g7;cases hi:P.info? T with
 |none=>simp[hi]
 |some i=>
  obtain⟨d,_,_,_,_,_,_,_,_,_⟩:=i;cases d<;>simp[hi]
theorem CI{T u:dg}(h:kindOf P T=.agg u):u=P.underlyingId T/\(∃l,dO P u=some l)/\P.cellsOf T=P.cellsOf u:=by
 unfold kindOf at h
 split at h
 ·split at h
  ·rename_i hc;simp at h;subst h;simp at hc;exact⟨rfl,ix.1 hc.1,hc.2⟩
  ·simp at h
 ·split at h
  ·rename_i hc;simp at h;subst h;simp at hc;exact⟨rfl,ix.1 hc.1,hc.2⟩
  ·simp at h
 ·split at h<;>simp at h
 ·simp at h
theorem wF{T u:dg}{n:Nat}(h:fO P T=some (u,n)):∃fs l,P.underlying T=some (.struct fs)/\fs.size=n/\kindOf P T= .agg u/\dO P u=some l/\l.length=n/\
 ∀(i:Nat)(_hi:i<n),∃f,fs[i]?=some f/\f.offset=(l.take i).sum/\l[i]?=some (P.cellsOf f.type)/\0<P.cellsOf f.type/\(jr P u)[i]?=some f.type:=by
 unfold fO at h
 split at h
 case h_2=>simp at h
 rename_i u' fs hk c;simp at h;obtain⟨rfl,rfl⟩:=h;obtain⟨g,⟨l,a⟩,_⟩:=CI hk;refine⟨fs,l,c,rfl,hk,a,?_⟩;have b:(P.info? u').map (fun i:dq=>i.desc)=some (.struct fs):=by rw[g,<-Cq,c]
 unfold dO at a;rw[b]at a;dsimp only at a
 split at a
 case isFalse=>simp at a
 rename_i hc;simp at a;simp only[cy,h0,decide_eq_true_eq,beq_iff_eq]at hc;obtain⟨⟨d,j⟩,e⟩:=hc;subst a;refine⟨by simp,fun i hi=>?_⟩;refine⟨fs[i],by simp[hi],?_,by simp[hi],?_,?_⟩
 ·have:=e (fs[i],i) (by rw[List.mem_iff_getElem?];exact⟨i,by simp[hi]⟩);simpa using this
 ·have:=d (P.cellsOf fs[i].type) (by simp;exact⟨fs[i],by simp,rfl⟩);exact this
 ·unfold jr;rw[b];simp[hi]
theorem uo{T u:dg}{n:Nat}(h:gV P T=some (u,n)):∃e,P.underlying T=some (.array n e)/\kindOf P T=.agg u/\dO P u=some (ht n (P.cellsOf e))/\0<P.cellsOf e:=by
 unfold gV at h
 split at h
 case h_2=>simp at h
 rename_i u' g e hk b;simp at h;obtain⟨rfl,rfl⟩:=h;obtain⟨d,⟨l,a⟩,_⟩:=CI hk;have c:(P.info? u').map (fun i:dq=>i.desc)=some (.array g e):=by rw[d,<-Cq,b]
 have f:=a;unfold dO at a;rw[c]at a;dsimp only at a
 split at a
 case isFalse=>simp at a
 rename_i hc;simp at a hc;exact⟨e,b,hk,by rw[f,a],hc.1⟩
theorem ze{p q:List (dg×Nat)}{a b:Nat}(c:gd P p=some a)(f:gd P q=some b):gd P (p++q)=some (a+b):=by
 induction p generalizing a with
 |nil=>simp[gd]at c;subst c;simpa using f
 |cons x p g=>
  obtain⟨u,i⟩:=x;simp only[gd]at c;cases d:dO P u with
  |none=>simp[d]at c
  |some l=>
   cases e:gd P p with
   |none=>simp[d,e]at c
   |some a'=>
    simp[d,e]at c;obtain⟨hi,rfl⟩:=c;simp only[List.cons_append,gd,d,g e,if_pos hi];congr 1;omega
theorem zi{u:dg}{i:Nat}{l:List Nat}(a:dO P u=some l)(hi:i<l.length):gd P [(u,i)]=some (l.take i).sum:=by
 simp[gd,a,hi]
variable{o:Oper}{ρ:da->AV}{base:Nat}
theorem kq(al off n:Nat):(⟨al,off,none⟩:Addr).add n=⟨al,off+n,none⟩:=by unfold Addr.add;split<;>simp_all
theorem Uf{T:dg}{a:da}{f:Nat}(v:o.op= .fieldAddr T a f){K:aY->Prop}(h:nU P T (ρ a) f K):
 ∃e,K e/\bu P o ρ base e/\e.ak=[]/\e.aJ=[]:=by
 unfold nU at h
 split at h
 case h_2=>exact h.elim
 rename_i u n aK;obtain⟨hf,h⟩:=h;obtain⟨fs,l,L,x,hk,G,O,E⟩:=wF aK;obtain⟨fd,g1,g2,g3,g4,g5⟩:=E f hf;have z:=zi G (by omega:f<l.length);have B:∀(w:db)(d:da->c9)(al off:Nat),d a=.pointer (some ⟨al,off,none⟩)->(dk d o).run P w=.ok (.value (.pointer (some ⟨al,off+(l.take f).sum,none⟩))) w:=by
  intro w d al off m;obtain⟨i,hi⟩:∃i,P.info? fd.type=some i:=by
   cases hi:P.info? fd.type with
   |none=>simp[gy,hi]at g4
   |some i=>exact⟨i,rfl⟩
  have J:(sizeOf fd.type).run P w=.ok (P.cellsOf fd.type) w:=by simp[sizeOf,typeInfo,hi,gy]
  simp only[dk,v];refine eE ?_;have I:¬P.cellsOf fd.type=0:=by omega
  simp[Instr.fieldAt,c6 L,g1,m,fZ,fieldPlace,J,I,kq,g2]
 split at h
 ·rename_i b N m;refine⟨_,h,bu.same fun H w ad ai β d D r _=>?_,rfl,rfl⟩;obtain⟨c,j⟩:=r a (by simp[v,gj]);rw[m]at c j;simp only[az,bN,bR,aD]at c j;obtain⟨_,al,off,M,A,y,p⟩:=c;refine⟨_,B w d _ _ A,?_,by simpa[aD]using j⟩;simp only[az,bN,bR];exact⟨rfl,_,_,_,rfl,ze y z,fun q=>⟨(p q).1,by rw[(p q).2]⟩⟩
 ·rename_i b aw aj i N m;refine⟨_,h,bu.same fun H w ad ai β d D r _=>?_,rfl,rfl⟩;obtain⟨c,j⟩:=r a (by simp[v,gj]);rw[m]at c j;simp only[az,bN,bR,aD]at c j;obtain⟨_,al,off,M,A,y,p⟩:=c;refine⟨_,B w d _ _ A,?_,by simpa[aD]using j⟩;simp only[az,bN,bR];exact⟨rfl,_,_,_,rfl,ze y z,fun k C q x=>⟨(p k C q x).1,by rw[(p k C q x).2];omega⟩⟩
 ·rename_i t m;obtain⟨hs,h⟩:=h
  split at h
  case h_2=>exact h.elim
  rename_i g F;refine⟨_,h,?_,rfl,rfl⟩;refine bu.same fun H w ad ai β d D r _=>?_;obtain⟨c,_⟩:=r a (by simp[v,gj]);rw[m]at c;simp only[az,aC]at c;obtain⟨al,off,Q,k1,k2,k3,k4⟩:=c;refine⟨_,B w d _ _ k4,?_,by simp[aD]⟩;obtain⟨pre,xs,post,e1,e2,e3⟩:=zY (path:=[(u,f)]) (s:=g) k1 (by simp[kY,hs,F]) z;simp only[az,aC];refine⟨al,off+(l.take f).sum,xs,e3,k2,?_,rfl⟩;intro i hi;have:=k3 (pre.length+i) (by rw[e1];simp;omega);rw[<-e2,ik,this];congr 1;simp only[e1,hD];rw[hN (by omega)];simp only[ih];rw[hO hi]
 ·exact h.elim
end
section
variable{P:dl}{w:db}{ad ai:Nat->Prop}{β:Bd}{H:Heap}
variable{o:Oper}{ρ:da->AV}{base:Nat}
theorem tY{al off:Nat}{a pre xs post:List c9}(h:gL w al off a)(e:a=pre++xs++post):gL w al (off+pre.length) xs:=by
 intro i hi;have:=h (pre.length+i) (by rw[e];simp;omega);rw[ik,this];congr 1;simp only[e,hD];rw[hN (by omega)];simp only[ih];rw[hO hi]
structure rA(P:dl)(T:dg)(sz:Nat)(e:dg)(i:dq):Prop where
 gq:P.underlying T=some (.slice e)
 info:P.info? e=some i
 size:i.size=sz
 pos:0<sz
 bytes:i.bytes<32768
 aKi:0<i.bytes
 ri:eH P T=e
theorem kg{T:dg}{sz:Nat}(h:cL P T=some sz):∃e i,rA P T sz e i:=by
 unfold cL at h
 split at h
 case h_2=>simp at h
 rename_i e a
 split at h
 case h_2=>simp at h
 rename_i i hi
 split at h
 case isFalse=>simp at h
 rename_i hc;simp at h;subst h;exact⟨e,i,a,hi,rfl,hc.2.1,hc.1,hc.2.2,by simp[eH,a]⟩
theorem rA.run{T:dg}{sz:Nat}{e:dg}{i:dq}(h:rA P T sz e i)(w:db):(sizeOf e).run P w=.ok sz w:=by
 simp[sizeOf,typeInfo,h.info,h.size]
theorem Ue{T:dg}{x S:da}(B:o.op= .indexAddr T x S){H0:Heap}{K:aY->Prop}(h:nT P T H0 (ρ x) (ρ S) K):
 ∃e,K e/\bu P o ρ base e/\(∀p∈e.ak,H0[p.1]?=some p.2)/\e.aJ=[]:=by
 unfold nT at h
 split at h
 case h_2=>exact h.elim
 rename_i ar n an;obtain⟨C,h⟩:=h;have E:x∈o.op.operands:=by simp[B,gj]
 have ao:S∈o.op.operands:=by simp[B,gj]
 have D:∀{H:Heap}{w:db}{ad:Nat->Prop}{β:Bd}{z:da->c9},(∀y∈o.op.operands,az P w ad β H (ρ y) (z y)/\aD (aH H) (ρ y))->z S=.int ar n:=by
  intro H w ad β z f;have:=(f S ao).1;rw[an]at this;simpa[az,aC]using this
 split at h
 ·
  rename_i full d hx;obtain⟨j,r,h⟩:=h;obtain⟨e,ah,A⟩:=kg r;refine⟨_,h,bu.same fun H w ad ai β z O f _=>?_,by simp,rfl⟩;obtain⟨a,_⟩:=f x E;rw[hx]at a;simp only[az,aC]at a;obtain⟨al,off,cap,aj,V,k1,k2,k3,k4,k5,sp,ab,k6⟩:=a;obtain rfl:sp=none:=ab.resolve_right (by omega);have aa:Row P w ad ⟨id,id⟩ [] aj (d.map .p) V:=mf.2 k1;obtain⟨pre,c,post,ac,ae,af,U,_⟩:=AR aa (i:=n.toNat) (by simpa using j);have M:aS P w ad d[n.toNat] c:=by
   have:(d.map AV.p)[n.toNat]'(by simpa using j)=.p d[n.toNat]:=by simp
   rw[this]at U;simpa only[bp]using U
  have X:bJ P (aM d[n.toNat])=aj:=by rw[<-(nV M).1,af]
  refine⟨.pointer (some ⟨al,off+n.toNat*aj,none⟩),?_,?_,by simp[aD]⟩
  ·simp only[dk,B];refine eE ?_;have q:n<(d.length:Int):=by omega
   simp[gc,D f,asIntOf,c6 A.gq,k6,C,q,A.run,X,kq]
  ·simp only[az,aC];refine⟨al,off+n.toNat*aj,c,M,k2 (by intro F;rw[F]at j;simp at j),?_,rfl⟩;rw[<-ae];exact tY k3 ac
 ·
  rename_i d hx;obtain⟨j,r,h⟩:=h;obtain⟨e,ah,A⟩:=kg r;refine⟨_,h,bu.same fun H w ad ai β z O f _=>?_,by simp,rfl⟩;obtain⟨a,_⟩:=f x E;rw[hx]at a;simp only[az,aC]at a;rcases a with⟨rfl,_⟩|⟨al,off,cap,aj,V,k1,k2,k3,k5,sp,ab,k6⟩
  ·simp at j
  obtain rfl:sp=none:=ab.resolve_right (by omega);have aa:Row P w ad ⟨id,id⟩ [] aj (d.map .p) V:=mf.2 k1;obtain⟨pre,c,post,ac,ae,af,U,_⟩:=AR aa (i:=n.toNat) (by simpa using j);have M:aS P w ad d[n.toNat] c:=by
   have:(d.map AV.p)[n.toNat]'(by simpa using j)=.p d[n.toNat]:=by simp
   rw[this]at U;simpa only[bp]using U
  have X:bJ P (aM d[n.toNat])=aj:=by rw[<-(nV M).1,af]
  refine⟨.pointer (some ⟨al,off+n.toNat*aj,none⟩),?_,?_,by simp[aD]⟩
  ·simp only[dk,B];refine eE ?_;have q:n<(d.length:Int):=by omega
   simp[gc,D f,asIntOf,c6 A.gq,k6,C,q,A.run,X,kq]
  ·simp only[az,aC];refine⟨al,off+n.toNat*aj,c,M,k2 (by intro F;rw[F]at j;simp at j),?_,rfl⟩;rw[<-ae];exact tY k3 ac
 ·
  rename_i b aw aj off len hx;obtain⟨r,j,h⟩:=h;obtain⟨e,ah,A⟩:=kg r
  split at h
  case h_2=>exact h.elim
  rename_i k aF ay d aq;obtain⟨rfl,rfl,ap,h⟩:=h;refine⟨_,h,bu.same fun H w ad ai β z O f ak=>?_,by simpa using aq,rfl⟩;obtain⟨a,l⟩:=f x E;rw[hx]at a l;simp only[az,bN,bR,aD]at a l;have ag:H[b]?=some (.arr k aw aj d):=by simpa using ak
  obtain⟨g1,g2,W⟩:=a.2 k d ag;have W:=W ap;refine⟨.pointer (some ⟨β.al b,off*aj+n.toNat*aj,none⟩),?_,?_,by simpa[aD]using l⟩
  ·simp only[dk,B];refine eE ?_;have q:n<(len:Int):=by omega
   simp[gc,D f,asIntOf,c6 A.gq,W,C,q,A.run,kq]
  ·simp only[az,bN,bR];refine⟨rfl,_,_,0,rfl,rfl,fun aB ax v aA=>?_⟩;unfold eS at v;rw[ag]at v;cases v;exact⟨rfl,by rw[ip];simp⟩
 ·
  rename_i b av hx
  split at h
  case h_2=>exact h.elim
  rename_i u m G;obtain⟨j,h⟩:=h;obtain⟨e,R,hk,I,N⟩:=uo G;refine⟨_,h,bu.same fun H w ad ai β z O f _=>?_,by simp,rfl⟩;obtain⟨a,l⟩:=f x E;rw[hx]at a l;simp only[az,bN,bR,aD]at a l;obtain⟨_,al,off,au,Z,Y,v⟩:=a;have L:=zi I (i:=n.toNat) (by simpa using j);have Q:((ht m (P.cellsOf e)).take n.toNat).sum=n.toNat*P.cellsOf e:=by rw[hy,h7 (by omega),hw]
  have r:(sizeOf e).run P w=.ok (P.cellsOf e) w:=by
   cases hi:P.info? e with
   |none=>simp[gy,hi]at N
   |some i=>simp[sizeOf,typeInfo,hi,gy]
  refine⟨.pointer (some ⟨al,off+n.toNat*P.cellsOf e,none⟩),?_,?_,by simpa[aD]using l⟩
  ·simp only[dk,B];refine eE ?_;have q:n<(m:Int):=by omega
   simp[gc,D f,asIntOf,c6 R,Z,fZ,C,q,r,kq]
  ·simp only[az,bN,bR];exact⟨rfl,_,_,_,rfl,ze Y L,fun J=>⟨(v J).1,by rw[(v J).2,Q]⟩⟩
 ·rename_i b aw aj i av hx
  split at h
  case h_2=>exact h.elim
  rename_i u m G;obtain⟨j,h⟩:=h;obtain⟨e,R,hk,I,N⟩:=uo G;refine⟨_,h,bu.same fun H w ad ai β z O f _=>?_,by simp,rfl⟩;obtain⟨a,l⟩:=f x E;rw[hx]at a l;simp only[az,bN,bR,aD]at a l;obtain⟨_,al,off,au,Z,Y,v⟩:=a;have L:=zi I (i:=n.toNat) (by simpa using j);have Q:((ht m (P.cellsOf e)).take n.toNat).sum=n.toNat*P.cellsOf e:=by rw[hy,h7 (by omega),hw]
  have r:(sizeOf e).run P w=.ok (P.cellsOf e) w:=by
   cases hi:P.info? e with
   |none=>simp[gy,hi]at N
   |some i=>simp[sizeOf,typeInfo,hi,gy]
  refine⟨.pointer (some ⟨al,off+n.toNat*P.cellsOf e,none⟩),?_,?_,by simpa[aD]using l⟩
  ·simp only[dk,B];refine eE ?_;have q:n<(m:Int):=by omega
   simp[gc,D f,asIntOf,c6 R,Z,fZ,C,q,r,kq]
  ·simp only[az,bN,bR];exact⟨rfl,_,_,_,rfl,ze Y L,fun k d J F=>⟨(v k d J F).1,by rw[(v k d J F).2,Q];omega⟩⟩
 ·rename_i t hx
  split at h
  case h_2=>exact h.elim
  rename_i u m G;obtain⟨hs,j,h⟩:=h
  split at h
  case h_2=>exact h.elim
  rename_i g am;obtain⟨e,R,hk,I,N⟩:=uo G;refine⟨_,h,bu.same fun H w ad ai β z O f _=>?_,by simp,rfl⟩;obtain⟨a,_⟩:=f x E;rw[hx]at a;simp only[az,aC]at a;obtain⟨al,off,aE,k1,k2,k3,k4⟩:=a;have L:=zi I (i:=n.toNat) (by simpa using j);have Q:((ht m (P.cellsOf e)).take n.toNat).sum=n.toNat*P.cellsOf e:=by rw[hy,h7 (by omega),hw]
  have r:(sizeOf e).run P w=.ok (P.cellsOf e) w:=by
   cases hi:P.info? e with
   |none=>simp[gy,hi]at N
   |some i=>simp[sizeOf,typeInfo,hi,gy]
  obtain⟨pre,xs,post,e1,e2,e3⟩:=zY (path:=[(u,n.toNat)]) (s:=g) k1 (by simp[kY,hs,am]) L;refine⟨.pointer (some ⟨al,off+n.toNat*P.cellsOf e,none⟩),?_,?_,by simp[aD]⟩
  ·simp only[dk,B];refine eE ?_;have q:n<(m:Int):=by omega
   simp[gc,D f,asIntOf,c6 R,k4,fZ,C,q,r,kq]
  ·simp only[az,aC];refine⟨al,_,xs,e3,k2,?_,rfl⟩;rw[<-Q,<-e2];exact tY k3 e1
 ·exact h.elim
theorem aGI{bs:ByteArray}{s:List Nat}(h:s=bs.data.toList.map (·.toNat)){i:Nat}(hi:i<s.length):∃b:UInt8,bs[i]?=some b/\b.toNat=s[i]:=by
 subst h;have a:i<bs.size:=by simpa using hi
 refine⟨bs[i],by simp[a],?_⟩;simp only[List.getElem_map,cc];rfl
theorem Vb{T:dg}{x f:da}{s:List Nat}{k:en}{n:Int}(e:o.op= .index T x f)(hx:ρ x= .p (.str s))(hi:ρ f= .p (.int k n))(d:il P T=true)(i:0<=n)(g:n.toNat<s.length):
 bu P o ρ base {v:=.p (.int .u8 (s[n.toNat]'g))}:=by
 refine bu.same fun H w ad ai β m l h _=>?_;have a:=(h x (by simp[e,gj])).1;have c:=(h f (by simp[e,gj])).1;rw[hx]at a;rw[hi]at c;simp only[az,aC]at a c;obtain⟨bs,e1,e2⟩:=a;obtain⟨b,g1,g2⟩:=aGI e2 g;have j:P.underlying T=some .string:=by
  unfold il at d
  split at d
  ·assumption
  ·simp at d
 refine⟨.int .u8 b.toNat,?_,by simp[az,aC,g2],by simp[aD]⟩;simp only[dk,e,e1,c];refine eE ?_;simp[Instr.index,asIntOf,c6 j,i,g1]
theorem Vx{S D:dg}{x:da}{k k0:en}{n:Int}(b:o.op= .convert S D x)(e:∃d,P.underlying S=some d)(c:P.underlying D=some (.int k))(hx:ρ x= .p (.int k0 n)):
 bu P o ρ base {v:=.p (.int k (k.wrap n))}:=by
 refine bu.same fun H w ad ai β i h g _=>?_;have a:=(g x (by simp[b,gj])).1;rw[hx]at a;simp only[az,aC]at a;obtain⟨d,f⟩:=e;refine⟨.int k (k.wrap n),?_,by simp[az,aC],by simp[aD]⟩;simp only[dk,b,a];refine eE ?_;simp[convert,c6 f,c6 c,Conv.intToInt]
theorem Vw{S D:dg}{x:da}{s:List Nat}(b:o.op= .convert S D x)(e:∃d,P.underlying S=some d)(c:P.underlying D=some .string)(hx:ρ x= .p (.str s)):
 bu P o ρ base {v:=.p (.str s)}:=by
 refine bu.same fun H w ad ai β i h g _=>?_;have a:=(g x (by simp[b,gj])).1;rw[hx]at a;simp only[az,aC]at a;obtain⟨bs,e1,e2⟩:=a;obtain⟨d,f⟩:=e;refine⟨.string bs,?_,by simp only[az,aC];exact⟨bs,rfl,e2⟩,by simp[aD]⟩;simp only[dk,b,e1];refine eE ?_;simp only[convert,ha,c6 f,c6 c,g9];cases d<;>simp
theorem Wj{b aw aj off len:Nat}{k:AK}{d:List AV}{v:c9}(h:az P w ad β H (.sl b aw aj off len) v)(j:H[b]?=some (.arr k aw aj d)):∃a c,v=.slice a len c:=by
 simp only[az,bN,bR]at h;obtain⟨f,g,i⟩:=h.2 k d j
 by_cases e:df k d
 ·rw[g e];have:len=0:=by rw[e.2]at f;simp at f;omega
  subst this;exact⟨_,_,rfl⟩
 ·exact⟨_,_,i e⟩
theorem CQ:∀{b:List (PV×PV)}{a:List MapEntry},cA P w ad b a->a.length=b.length
 |[],a,h=>by simp only[cA]at h;subst h;rfl
 |(k,v)::r,a,h=>by
  simp only[cA]at h;obtain⟨e,rest,rfl,d,f,c⟩:=h;simp[CQ c]
theorem aE8{c:Call}{x:da}{n:Nat}{ak:List (Nat×Obj)}{H0:Heap}(G:o.op= .call c)(hc:c.callee= .builtin .len)(E:c.args.toList=[x])(i:lenOf H0 (ρ x)=some (n,ak))(d:gR P (c.argTypes.getD 0 0) (ρ x)=true)(O:0<c.argTypes.size):
 bu P o ρ base {v:=.p (.int .i64 n),ak}/\(∀p∈ak,H0[p.1]?=some p.2):=by
 have u:x∈o.op.operands:=by
  rw[G];simp only[gj,Call.operands,hc];simp;rw[<-b1,E];simp
 have J:c.args=#[x]:=by apply b2;simpa using E
 have q:c.argTypes[0]?=some (c.argTypes.getD 0 0):=by simp[cv,O]
 have t:∀{H:Heap}{w:db}{ad:Nat->Prop}{β:Bd}{m:da->c9},((e8 c.argTypes o.type #[m x]).run P w= .ok (goInt n) w)->
  ∃D,(dk m o).run P w=.ok (.value D) w/\az P w ad β H (.p (.int .i64 n)) D/\aD (aH H) (.p (.int .i64 n)):=by
  intro H w ad β m L;refine⟨goInt n,?_,by simp[az,aC,goInt],by simp[aD]⟩;simp only[dk,G,resolve,hc,J];simp[invoke,builtin,L]
 have N:∀T:dg,il P T=true->P.underlying T=some .string:=by
  intro T h;unfold il at h
  split at h
  ·assumption
  ·simp at h
 generalize R:c.argTypes.getD 0 0=T at*;unfold lenOf at i
 split at i
 ·rename_i s hx;simp at i;obtain⟨rfl,rfl⟩:=i;rw[hx]at d;simp only[gR]at d;refine⟨bu.same fun H w ad ai β m y j _=>t ?_,by simp⟩;have g:=(j x u).1;rw[hx]at g;simp only[az,aC]at g;obtain⟨bs,e1,e2⟩:=g;have hs:s.length=bs.size:=by rw[e2];simp
  simp[e8,q,c6 (N _ d),e1,hs]
 ·rename_i hx;simp at i;obtain⟨rfl,rfl⟩:=i;rw[hx]at d;refine⟨bu.same fun H w ad ai β m y j _=>t ?_,by simp⟩;have g:=(j x u).1;rw[hx]at g;simp only[az,aC]at g;simp only[gR]at d
  split at d
  ·rename_i e l;simp[e8,q,c6 l,g]
  ·simp at d
 ·rename_i hx;simp at i;obtain⟨rfl,rfl⟩:=i;rw[hx]at d;refine⟨bu.same fun H w ad ai β m y j _=>t ?_,by simp⟩;have g:=(j x u).1;rw[hx]at g;simp only[az,aC]at g;simp only[gR]at d
  split at d
  ·rename_i k e l;simp[e8,q,c6 l,g]
  ·simp at d
 ·rename_i f z hx;simp at i;obtain⟨rfl,rfl⟩:=i;rw[hx]at d;refine⟨bu.same fun H w ad ai β m y j _=>t ?_,by simp⟩;have g:=(j x u).1;rw[hx]at g;simp only[az,aC]at g;obtain⟨al,off,cap,aj,I,k1,k2,k3,k4,k5,sp,M,k6⟩:=g;simp only[gR]at d
  split at d
  ·rename_i e l;simp[e8,q,c6 l,k6]
  ·simp at d
 ·rename_i z hx;simp at i;obtain⟨rfl,rfl⟩:=i;rw[hx]at d;refine⟨bu.same fun H w ad ai β m y j _=>t ?_,by simp⟩;have g:=(j x u).1;rw[hx]at g;simp only[az,aC]at g;simp only[gR]at d
  split at d
  ·rename_i e l;rcases g with⟨rfl,k6⟩|⟨al,off,cap,aj,I,k1,k2,k3,k5,sp,M,k6⟩
   ·simp[e8,q,c6 l,k6]
   ·simp[e8,q,c6 l,k6]
  ·simp at d
 ·rename_i z hx;simp at i;obtain⟨rfl,rfl⟩:=i;rw[hx]at d;refine⟨bu.same fun H w ad ai β m y j _=>t ?_,by simp⟩;have g:=(j x u).1;rw[hx]at g;simp only[az,aC]at g;obtain⟨r,A,clock,k1,k2,k3,k4⟩:=g;simp only[gR]at d
  split at d
  ·rename_i k e l;have:=CQ k3;have B:(getObj r).run P w=.ok (.map A clock) w:=by simp[getObj,he,k2]
   simp at this;simp[e8,q,c6 l,k4,B,this]
  ·simp at d
 ·rename_i b aw aj off len hx
  split at i
  case h_2=>simp at i
  rename_i k S Q z C
  split at i
  case isFalse=>simp at i
  rename_i K;obtain⟨rfl,rfl⟩:=K;simp at i;obtain⟨rfl,rfl⟩:=i;rw[hx]at d;refine⟨bu.same fun H w ad ai β m y j ak=>t ?_,by simpa using C⟩;have g:=(j x u).1;rw[hx]at g;obtain⟨a,cp,e1⟩:=Wj g (by simpa using ak);simp only[gR]at d
  split at d
  ·rename_i e l;simp[e8,q,c6 l,e1]
  ·simp at d
 ·rename_i b hx
  split at i
  case h_2=>simp at i
  rename_i fz z C;simp at i;obtain⟨rfl,rfl⟩:=i;rw[hx]at d;refine⟨bu.same fun H w ad ai β m y j ak=>t ?_,by simpa using C⟩;have g:=(j x u).1;rw[hx]at g;simp only[az,bN,bR]at g;have F:H[b]?=some (.map fz z):=by simpa using ak
  obtain⟨A,clock,k2,k3,_⟩:=y.cC b _ F;have e1:=g.2.1 ⟨_,F,trivial⟩;simp only[gR]at d
  split at d
  ·rename_i k e l;have:=CQ k3;have B:(getObj (β.al b)).run P w=.ok (.map A clock) w:=by simp[getObj,he,k2]
   simp at this;simp[e8,q,c6 l,e1,B,this]
  ·simp at d
 ·simp at i
end
section
variable{P:dl}{w:db}{ad ai:Nat->Prop}{β:Bd}{H:Heap}
variable{o:Oper}{ρ:da->AV}{base:Nat}
theorem LR:∀(a:List c9)(off j:Nat)(cells:Array c9),off+j+a.length<=cells.size->
 ((a.zipIdx j).foldl (fun cs(p:c9×Nat)=>cs.setIfInBounds (off+p.2) p.1) cells).toList=cells.toList.take (off+j)++a++cells.toList.drop (off+j+a.length)
 |[],off,j,cells,_=>by simp
 |x::a,off,j,cells,h=>by
  simp only[List.zipIdx_cons,List.foldl_cons];rw[LR a off (j+1) _ (by simp at h⊢;omega)];simp only[Array.toList_setIfInBounds,hX];have d:off+j<cells.toList.length:=by simp at h⊢;omega
  rw[show off+(j+1)=off+j+1 by omega];have b:(cells.toList.set (off+j) x).take (off+j+1)=cells.toList.take (off+j)++[x]:=by
   rw[List.take_succ_eq_append_getElem (by simpa using d)];rw[List.take_set_of_le (h6 _)];simp
  have c:(cells.toList.set (off+j) x).drop (off+j+1+a.length)=cells.toList.drop (off+j+(a.length+1)):=by
   rw[List.drop_set_of_lt (by omega)];congr 1;omega
  rw[b,c];simp
theorem Uv{a c post b:List c9}(h:b.length=c.length):((a++c++post).take a.length++b++(a++c++post).drop (a.length+b.length))=a++b++post:=by
 rw[h];simp
theorem CN{l:List Nat}{place:Nat->Option (Nat×Nat)}(s:∀i n,l[i]?=some n->place i=some ((l.take i).sum,n)):
 ∀{f:List (Nat×AV)}{j:List (Nat×c9)}{fs:List AV}{e:List (List c9)}{cells:Array c9},j.map i4=f.map i4->(∀i:Nat,az P w ad β H (((f[i]?).map i3).getD (.p .undef)) (((j[i]?).map i3).getD undef))->
  mb P l f->bM P w ad β H l fs e->cells.toList=e.flatten->
  ∃g m,gg place cells j=some g/\bM P w ad β H l (ij fs f) m/\g.toList=m.flatten
 |[],[],fs,e,cells,_,_,_,h,hc=>⟨cells,e,rfl,h,hc⟩
 |[],_::_,_,_,_,b,_,_,_,_=>by simp at b
 |_::_,[],_,_,_,b,_,_,_,_=>by simp at b
 |(i,a)::f,(d,v)::j,fs,e,cells,b,t,o,h,hc=>by
  simp only[h4,List.cons.injEq]at b;obtain⟨rfl,b⟩:=b;simp only[mb]at o;obtain⟨⟨n,q,hs,B⟩,o⟩:=o;have G:az P w ad β H a v:=by simpa using t 0
  have y:=fun k=>t (k+1);simp only[hQ]at y;have L:=zf h;have K:d<l.length:=(hr.1 q).1;have C:d<fs.length:=by omega
  obtain⟨pre,c,post,e1,e2,e3,e4,e5,A⟩:=uy h (hz C);have J:c.length=n:=by rw[q]at e4;simpa using e4.symm
  have u:=zB G B;have x:v.cells.toList.length=n:=by rw[(nZ u).1,hs]
  obtain⟨m,k1,k2⟩:=A a _ u (by omega);have F:cells.size=pre.length+c.length+post.length:=by
   have:=congrArg hL (hc.trans e1);simp at this;omega
  have I:v.cells.size=n:=by simpa using x
  obtain⟨ot,r⟩:∃ot,(v.cells.zipIdx.foldl (fun cs(p:c9×Nat)=>cs.setIfInBounds ((l.take d).sum+p.2) p.1) cells)=ot:=⟨_,rfl⟩
  have D:ot.toList=m.flatten:=by
   rw[<-r,k1];have:=LR v.cells.toList (l.take d).sum 0 cells (by rw[<-e2];simp at x⊢;omega);rw[<-ce];simp only[Array.toList_zipIdx];rw[this,hc,e1,h9,<-e2];exact Uv (by omega)
  obtain⟨g,z,g1,g2,g3⟩:=CN s b y o k2 D;refine⟨g,z,?_,by simpa only[ij]using g2,g3⟩;have E:¬(v.cells.size≠n\/(l.take d).sum+v.cells.size>cells.size):=by
   rw[I,F,<-e2];omega
  simp only[gg,s d n q];simp only[Bool.or_eq_true,decide_eq_true_eq,E,if_false];simp only[<-r]at g1;exact g1
end
section
variable{P:dl}{w:db}{ad ai:Nat->Prop}{β:Bd}{H:Heap}
variable{o:Oper}{ρ:da->AV}{base:Nat}
theorem IX{α γ:Type}(f:α->Sem γ)(g:α->γ)(w:db):∀l:List α,(∀a∈l,(f a).run P w=.ok (g a) w)->(l.mapM f).run P w=.ok (l.map g) w
 |[],_=>by simp
 |a::l,h=>by
  simp only[h2,ha,h a (by simp),g9,IX f g w l (fun b c=>h b (by simp[c])),h4];rfl
theorem T0{α γ:Type}(f:α->Sem γ)(g:α->γ)(w:db)(a:Array α)(h:∀x∈a.toList,(f x).run P w=.ok (g x) w):(a.mapM f).run P w=.ok (a.toList.map g).toArray w:=by
 rw[b4,hd,IX f g w _ h];rfl
theorem KM{ρc:da->c9}{parts:Array (Nat×da)}(h:∀p∈parts.toList,az P w ad β H (ρ p.2) (ρc p.2)):
 ((parts.map fun(i,x)=>(i,ρc x)).toList).map i4=(parts.toList.map fun(i,x)=>(i,ρ x)).map i4/\
 ∀i:Nat,az P w ad β H ((((parts.toList.map fun(i,x)=>(i,ρ x))[i]?).map i3).getD (.p .undef)) ((((parts.map fun(i,x)=>(i,ρc x)).toList[i]?).map i3).getD undef):=by
 refine⟨by simp[Function.comp_def],fun i=>?_⟩;simp only[ck,hW];cases a:parts.toList[i]? with
 |none=>simp[az,aC]
 |some p=>simpa using h p (hF a)
theorem Dd{S:Nat×Nat->Prop}:∀{b:List (Nat×AV)}{fs:List AV},aV S fs->(∀p∈b,aD S p.2)->aV S (ij fs b)
 |[],fs,h,_=>h
 |(i,v)::r,fs,h,a=>by
  simp only[ij];refine Dd ?_ (fun p c=>a p (by simp[c]));rw[cJ]at h⊢;intro x hx;rcases hM hx with hx|rfl
  ·exact h x hx
  ·exact a (i,x) (by simp)
theorem KP{c:Array (Nat×da)}{p:Nat×da}(a:p∈c.toList):p.2∈((c.toList.map (·.2)).toArray:Array da):=by
 simp;exact⟨p.1,by simpa using a⟩
theorem XO{T u:dg}{z:PV}{l:List Nat}{c:Array (Nat×da)}(y:o.op= .build T c)(hk:kindOf P T= .agg u)(V:cO P T=some z)(s:dO P u=some l)(hs:aM z= .agg u)
 (Q:mb P l (c.toList.map fun(i,x)=>(i,ρ x))):bu P o ρ base {v:=gW u (ij ((cH z).map .p) (c.toList.map fun(i,x)=>(i,ρ x)))}:=by
 obtain⟨i,ae,L,z2,z3,z4⟩:=pQ V;refine bu.same fun H w ad ai β m aj W _=>?_;have G:∀p∈c.toList,az P w ad β H (ρ p.2) (m p.2)/\aD (aH H) (ρ p.2):=fun p g=>W p.2 (by rw[y];exact KP g);obtain⟨Y,Z⟩:=KM (ρ:=ρ) (ρc:=m) (parts:=c) (fun p g=>(G p g).1);have I:=z3 w ad;obtain⟨fs,rfl⟩:∃fs,z=.st u fs:=by cases z<;>simp[aM]at hs;subst hs;exact⟨_,rfl⟩
 simp only[aS]at I;obtain⟨X,af,q1,aa,ab⟩:=I;rw[s]at q1;cases q1
 have E:∀A:Nat->Option (Nat×Nat),(∀i n,l[i]?=some n->A i=some ((l.take i).sum,n))->
  (∀cells,gg A ae.cells (c.map fun(i,x)=>(i,m x)).toList=some cells->(dk m o).run P w=.ok (.value (.agg cells)) w)->
  ∃C,(dk m o).run P w=.ok (.value C) w/\az P w ad β H (gW u (ij ((cH (.st u fs)).map .p) (c.toList.map fun(i,x)=>(i,ρ x)))) C/\
   aD (aH H) (gW u (ij ((cH (.st u fs)).map .p) (c.toList.map fun(i,x)=>(i,ρ x)))):=by
  intro A R U;obtain⟨M,N,g1,g2,g3⟩:=CN R Y Z Q (nY.2 aa) ab;refine⟨.agg M,U _ g1,?_,Cs (Dd (jb _ _) ?_)⟩
  ·rw[Yy];simp only[az];exact⟨l,N,s,g2,by rw[<-g3]⟩
  ·intro p g;simp only[h5]at g;obtain⟨q,hq,rfl⟩:=g;exact(G q hq).2
 have k:=hk;unfold kindOf at k
 split at k
 ·rename_i a d;have aK:fO P T=some (u,a.size):=by unfold fO;rw[hk,d]
  obtain⟨ag,X,s1,s2,B,t,ac,J⟩:=wF aK;rw[d]at s1;cases s1;rw[s]at t;cases t;have S:(a.mapM fun f=>(do pure (f.offset,<-sizeOf f.type):Sem (Nat×Nat))).run P w=.ok (a.toList.map fun f:Field=>(f.offset,P.cellsOf f.type)).toArray w:=by
   refine T0 _ _ w _ (fun f hf=>?_);obtain⟨j,r,rfl⟩:=List.mem_iff_getElem.1 hf;obtain⟨D,g1,g2,g3,g4,g5⟩:=J j (by simpa using r);have:a[j]'(by simpa using r)=D:=by
    have F:a[j]?=some (a[j]'(by simpa using r)):=Array.getElem?_eq_getElem (by simpa using r);rw[g1]at F;exact(i2 F).symm
   simp only[cc,this];simp[K g4]
  refine E (fun i=>(a.toList.map fun f:Field=>(f.offset,P.cellsOf f.type)).toArray[i]?) ?_ (fun cells hc=>?_)
  ·intro i n b;have hi:i<a.size:=by rw[<-ac];exact(hr.1 b).1
   obtain⟨D,g1,g2,g3,g4,g5⟩:=J i hi;rw[b]at g3;simp only[List.getElem?_toArray,hW,cb,g1];simp[g2,i2 g3]
  ·simp only[dk,y];refine eE ?_;simp only[gi,ha,uf L z2,g9,c6 d,S,hc,hb]
 ·rename_i n e d;have O:gV P T=some (u,n):=by unfold gV;rw[hk,d]
  obtain⟨e',s1,s2,B,t⟩:=uo O;rw[d]at s1;cases s1;rw[s]at B;cases B;refine E (fun i=>some (i*P.cellsOf e,P.cellsOf e)) ?_ (fun cells hc=>?_)
  ·intro i ak b;rw[hB]at b
   split at b
   ·rename_i ah;simp at b;subst b;rw[hy,h7 (by omega),hw]
   ·simp at b
  ·simp only[dk,y];refine eE ?_;simp only[gi,ha,uf L z2,g9,c6 d,K t,hc,hb]
 ·split at k<;>simp at k
 ·simp at k
where
 K {P:dl} {w:db} {T:dg} (h:0<P.cellsOf T):(sizeOf T).run P w=.ok (P.cellsOf T) w:=by
  cases hi:P.info? T with
  |none=>simp[gy,hi]at h
  |some i=>simp[sizeOf,typeInfo,hi,gy]
theorem zu(a:Array c9)(n:Nat)(_h:0<a.size):((b0 (n*a.size)).map (a[·% a.size]!)).toList=(ht n a.toList).flatten:=by
 simp only[ck,Array.toList_range]
 induction n with
 |zero=>simp
 |succ n c=>
  rw[Nat.succ_mul,List.range_add,List.map_append,c,List.replicate_succ',hU];congr 1;simp only[List.map_map,hC,List.flatten_nil,h1];refine List.ext_getElem (by simp) (fun i b d=>?_);simp at b;simp[Nat.mul_add_mod_self_right,Nat.mod_eq_of_lt b,b,getElem!_pos]
theorem wG{z:PV}{a:List c9}(h:aS P w ad z a):∀n:Nat,Row P w ad β H a.length (ht n (.p z)) (ht n a)
 |0=>hJ.2 rfl
 |n+1=>by
  rw[hT,hT,rD];exact⟨a,_,rfl,by simpa only[bp]using h,rfl,wG h n⟩
theorem zC(d:bU P w ad β H ai){b:Nat}(c:H[b]?=some .hole){cells:Array c9}{T:dg}{k:AK}{aj cap:Nat}{a:List AV}{e:List (List c9)}{rest:List c9}(g:k≠ .frozen)(n:¬df k a)
 (o:Row P w ad β H aj a e)(i:aV (aH H) a)(hc:cells.toList=e.flatten++rest)(p:cells.size=cap*aj)(m:a.length<=cap)(l:k=.exact->cap=a.length)(q:k=.bytes->T=Gl.u8):
 bY P ai ad w β H ad {w with heap:=w.heap.push (.cells cells T)} (β.at b w.heap.size cap) (H.set b (.arr k 0 aj a))/\
 az P {w with heap:=w.heap.push (.cells cells T)} ad (β.at b w.heap.size cap) (H.set b (.arr k 0 aj a)) (.sl b 0 aj 0 a.length) (.slice (some ⟨w.heap.size,0,none⟩) a.length cap):=by
 have aK:=zM (β:=β) c (.arr k 0 aj a) w.heap.size cap;have ak:∀y,aH H y->aH (H.set b (.arr k 0 aj a)) y:=mg c (fun _ h=>h.elim);have j:=(hr.1 c).1;refine⟨uh (cap:=cap) d c (ob:=.cells cells T)
  (.inr ⟨cells,T,e,rest,by simp[Bd.at],bM.mono (fun _ x=>x) (fun k hk=>wP _ _ (d.bV k hk)) aK _ _ _ i o,hc,by simp[Bd.at,p],by simpa[Bd.at]using m,by simpa[Bd.at]using l,by
   unfold cz;rw[if_neg (by simpa using g)];simp only[Bd.at,if_true];exact⟨fun h=>h8 _ (d.bV _ h),fun h=>h8 _ (d.ey _ h)⟩,(fun h=>(g h).elim),q⟩) (aV.mono ak _ i),?_⟩
 simp only[az,bN,bR];refine⟨rfl,fun s r f=>?_⟩;unfold eS at f;rw[hv j]at f;cases f;exact⟨by omega,fun h=>(n h).elim,fun _=>by simp[Bd.at]⟩
theorem T5{T:dg}{n sz:Nat}{z:PV}{a:Array (Nat×da)}(C:o.op= .buildSlice T n a)(b:cL P T=some sz)(X:cO P (eH P T)=some z)(hs:bJ P (aM z)=sz)(ae:n*sz<=1000000)
 (Q:mb P (ht n sz) (a.toList.map fun(i,x)=>(i,ρ x))):
 bu P o ρ base {v:=.sl base 0 sz 0 n,aU:=[.arr .exact 0 sz (ij (ht n (.p z)) (a.toList.map fun(i,x)=>(i,ρ x)))]}:=by
 obtain⟨e,ag,b⟩:=kg b;obtain⟨i,f,I,z2,z3,z4⟩:=pQ X;rw[b.ri]at I;intro H w ad ai β t R Z _ N;have B:H[base]?=some .hole:=by simpa using N 0 (by simp)
 have D:∀p∈a.toList,az P w ad β H (ρ p.2) (t p.2)/\aD (aH H) (ρ p.2):=fun p d=>Z p.2 (by rw[C];exact KP d);obtain⟨aa,ab⟩:=KM (ρ:=ρ) (ρc:=t) (parts:=a) (fun p d=>(D p d).1);have F:=z3 w ad;have s:f.cells.size=sz:=by have:=(nV F).1;simp at this;omega
 have r:=wG (β:=β) (H:=H) F n;have Y:f.cells.toList.length=sz:=by simpa using s
 rw[Y]at r;obtain⟨y,m⟩:∃c,c=(b0 (n*sz)).map (f.cells[·% f.cells.size]!):=⟨_,rfl⟩
 have O:y.toList=(ht n f.cells.toList).flatten:=by
  rw[m,<-s];exact zu _ _ (by rw[s];exact b.pos)
 have U:bM P w ad β H (ht n sz) (ht n (.p z)) (ht n f.cells.toList):=by
  unfold Row at r;simpa using r
 obtain⟨u,J,g1,g2,g3⟩:=CN (place:=fun i=>some (i*sz,sz)) (by
  intro i af j;rw[hB]at j
  split at j
  ·rename_i ac;simp at j;subst j;rw[hy,h7 (by omega),hw]
  ·simp at j) aa ab Q U O
 have l:(ij (ht n (.p z)) (a.toList.map fun(i,x)=>(i,ρ x))).length=n:=by
  have:=(zf g2).2.1;simpa using this
 have E:Row P w ad β H sz (ij (ht n (.p z)) (a.toList.map fun(i,x)=>(i,ρ x))) J:=by unfold Row;rw[l];exact g2
 have S:aV (aH H) (ij (ht n (.p z)) (a.toList.map fun(i,x)=>(i,ρ x))):=by
  refine Dd ?_ ?_
  ·rw[cJ];intro v W;rw[hP W];simp[aD]
  ·intro p d;simp only[h5]at d;obtain⟨q,hq,rfl⟩:=d;exact(D q hq).2
 have M:u.size=n*sz:=by
  have A:=(fN E).2;rw[l,<-g3]at A;simpa using A
 have V:(dk t o).run P w=.ok (.value (.slice (some ⟨w.heap.size,0,none⟩) n n)) {w with heap:=w.heap.push (.cells u e)}:=by
  simp only[dk,C];have K:¬(n*sz>2^24):=by omega
  have L:n*sz=0->(b0 (n*sz)).map ((#[]:Array c9)[·% (#[]:Array c9).size]!)=y:=by
   intro g;rw[m,g];simp
  refine wD ?_;simp only[Instr.buildSlice,ha,c6 b.gq,g9,b.run,if_neg K]
  by_cases g:n*sz=0
  ·rw[if_pos g];simp only[ha,hb,g9,L g,g1,newRow,ee]
  ·rw[if_neg g];simp only[ha,hb,g9,uf I z2,<-m,g1,newRow,ee]
 obtain⟨q1,G⟩:=zC (T:=e) (k:=.exact) R B (by simp) (by simp[df,AK.gr]) E S (rest:=[]) (by simpa using g3) (by rw[M]) (by omega:_<=n) (fun _=>l.symm) (fun h=>by cases h);rw[l]at G;exact⟨_,_,_,_,ad,V,.inl rfl,q1,G,by
  simp only[aD,lY];exact⟨_,hv (hr.1 B).1,h6 _⟩⟩
theorem Ud{T:dg}{lo q:da}{sz:Nat}{z:PV}{l:Int}(t:o.op= .makeSlice T lo q)(a:cL P T=some sz)(X:cO P (eH P T)=some z)(L:ρ lo= .p (.int .i64 l))(hc:ρ q= .p (.int .i64 l))
 (hs:bJ P (aM z)=sz)(b:0<=l)(M:l<=di):bu P o ρ base {v:=.sl base 0 sz 0 l.toNat,aU:=[.arr .exact 0 sz (ht l.toNat (.p z))]}:=by
 obtain⟨e,d,a⟩:=kg a;obtain⟨i,g,D,z2,z3,z4⟩:=pQ X;rw[a.ri]at D;intro H w ad ai β Z O B _ K;have u:H[base]?=some .hole:=by simpa using K 0 (by simp)
 have r:=(B lo (by simp[t,gj])).1;have j:=(B q (by simp[t,gj])).1;rw[L]at r;rw[hc]at j;simp only[az,aC]at r j;have A:=z3 w ad;have m:g.cells.size=sz:=by have:=(nV A).1;simp at this;omega
 obtain⟨n,rfl⟩:=Int.eq_ofNat_of_zero_le b;have y:=wG (β:=β) (H:=H) A n;have Y:g.cells.toList.length=sz:=by simpa using m
 rw[Y]at y;obtain⟨f,s⟩:∃c,c=(b0 (n*sz)).map (g.cells[·% g.cells.size]!):=⟨_,rfl⟩
 have x:f.toList=(ht n g.cells.toList).flatten:=by
  rw[s,<-m];exact zu _ _ (by rw[m];exact a.pos)
 have N:n<=1073741824:=by unfold di at M;omega
 have E:d.bytes*n<=32768*1073741824:=ii (by have:=a.bytes;omega) N;have Q:(dk Z o).run P w=.ok (.value (.slice (some ⟨w.heap.size,0,none⟩) n n)) {w with heap:=w.heap.push (.cells f e)}:=by
  simp only[dk,t,r,j];have W:IntKind.i64.wrap (n:Int)=n:=IntWalk.i64_in _ (by omega);have R:¬((n:Int)<0):=by omega
  have S:¬((d.bytes:Int)*n>2^48):=by
   intro J;have j:d.bytes*n<=35184372088832:=E;have aa:((d.bytes*n:Nat):Int)>281474976710656:=by rw[Int.natCast_mul];exact J
   omega
  have F:n*sz=0->(b0 (n*sz)).map ((#[]:Array c9)[·% (#[]:Array c9).size]!)=f:=by
   intro b;rw[s,b];simp
  have U:(typeInfo e).run P w=.ok d w:=by simp[typeInfo,a.info]
  have G:((decide ((n:Int)<0)||decide ((d.bytes:Int)*n>2^48))||decide ((n:Int)<0)||decide ((n:Int)>n))=false:=by
   simp only[R,S,decide_false,Bool.or_false,Bool.false_or];simp
  refine wD ?_;simp only[Instr.makeSlice,ha,c6 a.gq,g9,asInt,asIntOf,hb,U,W];rw[if_neg (by simpa using G)];simp only[ha,run_askRoom,g9,a.run,Int.toNat_natCast]
  by_cases b:n*sz=0
  ·rw[if_pos b];simp only[ha,hb,g9,F b,newRow,ee]
  ·rw[if_neg b];simp only[ha,hb,g9,uf D z2,<-s,newRow,ee]
 have I:f.size=n*sz:=by
  have:=congrArg hL x;simp at this;rw[this];simp[m]
 obtain⟨q1,C⟩:=zC (T:=e) (k:=.exact) O u (cells:=f) (cap:=n) (by simp) (by simp[df,AK.gr]) y (by
  rw[cJ];intro v V;rw[hP V];simp[aD]) (rest:=[]) (by simpa using x) I (by simp) (fun _=>by simp) (fun h=>by cases h)
 simp only[List.length_replicate]at C;exact⟨_,_,_,_,ad,Q,.inl rfl,q1,C,by
  simp only[aD,lY];exact⟨_,hv (hr.1 u).1,h6 _⟩⟩
end
section
variable{P:dl}{w:db}{ad ai:Nat->Prop}{β:Bd}{H:Heap}
variable{o:Oper}{ρ:da->AV}{base:Nat}
theorem kl{x:Option da}{d:Nat}{R:Nat->Prop}(h:gA (x.map ρ) d R):
 ∃n,R n/\((x=none/\n=d)\/∃y k,x=some y/\ρ y=.p (.int k n)):=by
 cases x with
 |none=>exact⟨d,h,.inl ⟨rfl,rfl⟩⟩
 |some y=>
  simp only[i0,gA]at h
  split at h
  ·rename_i hx;cases hx
  ·rename_i k i hx;simp at hx;obtain⟨a,h⟩:=h;refine⟨i.toNat,h,.inr ⟨y,k,rfl,?_⟩⟩;rw[hx,Int.toNat_of_nonneg a]
  ·exact h.elim
theorem tV{lo hi:Option da}{ρc:da->c9}{b:Bool}{len cap d h l:Nat}(m:d=len)(n:(hi=none/\h=d)\/∃y k,hi=some y/\ρ y= .p (.int k h))(o:(lo=none/\l=0)\/∃y k,lo=some y/\ρ y= .p (.int k l))
 (f:h<=cap)(g:l<=h)(e:∀y,(hi=some y\/lo=some y)->az P w ad β H (ρ y) (ρc y)):(fm b len cap (lo.map ρc) (hi.map ρc) none).run P w=.ok (l,h,cap) w:=by
 subst m;rcases n with⟨rfl,rfl⟩|⟨y,k,rfl,i⟩<;>rcases o with⟨rfl,rfl⟩|⟨z,q,rfl,j⟩
 ·simp[fm]
 ·have c:=e z (.inr rfl);rw[j]at c;simp only[az,aC]at c;simp[fm,c,gb,asIntOf,g]
 ·have a:=e y (.inl rfl);rw[i]at a;simp only[az,aC]at a;simp[fm,a,gb,asIntOf,f]
 ·have a:=e y (.inl rfl);rw[i]at a;simp only[az,aC]at a;have c:=e z (.inr rfl);rw[j]at c;simp only[az,aC]at c;simp[fm,a,c,gb,asIntOf,f,g]
theorem tS{T e:dg}(b:P.underlying T=some (.slice e))(x:c9)(lo hi a:Option c9)(w:db):(ge T x lo hi a).run P w=(fv T x lo hi a).run P w:=by
 simp only[ge,ha,c6 b,g9]
theorem Ur{T:dg}(b:P.underlying T=some .string)(x:c9)(lo hi a:Option c9)(w:db):(ge T x lo hi a).run P w=(fv T x lo hi a).run P w:=by
 simp only[ge,ha,c6 b,g9]
theorem qc{T:dg}{x y:da}{lo hi b:Option da}(a:o.op=.slice T x lo hi b)(h:hi=some y\/lo=some y):y∈o.op.operands:=by
 rw[a];simp only[gj];rcases h with rfl|rfl<;>simp
theorem zl{T:dg}(h:il P T=true):P.underlying T=some .string:=by
 unfold il at h
 split at h
 ·assumption
 ·simp at h
theorem wO{aj:Nat}:∀{l:List AV},fe P aj l↔∀v∈l,aa v≠.bad/\bJ P (aa v)=aj
 |[]=>by simp[fe]
 |v::l=>by simp[fe,wO (l:=l)]
theorem uj{sz aj:Nat}{a:List AV}{d:List (List c9)}(b:Row P w ad β H aj a d)(hs:fe P sz a)(g:a≠[]):aj=sz:=by
 cases a with
 |nil=>exact(g rfl).elim
 |cons v a=>
  rw[rD]at b;obtain⟨c,cs,rfl,e,f,_⟩:=b;have:=(wO.1 hs v (by simp)).2;rw[<-f,(nZ e).1,this]
theorem My{aj:Nat}{d:List PV}{e:List (List c9)}(h:bd P w ad (ht d.length aj) d e)(off len:Nat)(f:off+len<=d.length):
 ∃a b c,e=a++b++c/\bd P w ad (ht ((d.drop off).take len).length aj) ((d.drop off).take len) b/\a.flatten.length=off*aj:=by
 have g:Row P w ad ⟨id,id⟩ [] aj (d.map .p) e:=mf.2 h;obtain⟨a,b,c,e1,e2,e3,_⟩:=jG g off len (by simpa using f);rw[Co,mf]at e2;exact⟨a,b,c,e1,e2,e3⟩
theorem XK{T:dg}{x:da}{lo hi N:Option da}(r:o.op= .slice T x lo hi N){H0:Heap}{K:aY->Prop}(h:oc P T H0 (ρ x) (lo.map ρ) (hi.map ρ) (N.map ρ) K):
 ∃e,K e/\bu P o ρ base e/\(∀p∈e.ak,H0[p.1]?=some p.2)/\e.aJ=[]:=by
 unfold oc at h;obtain⟨ap,h⟩:=h;obtain rfl:N=none:=by cases N<;>simp_all
 have J:x∈o.op.operands:=by rw[r];simp[gj]
 split at h
 ·
  rename_i s hx;obtain⟨af,h⟩:=h;have ab:=zl af;obtain⟨l,h,C⟩:=kl h;obtain⟨f,h,D⟩:=kl h;obtain⟨A,B,h⟩:=h;refine⟨_,h,bu.same fun H w ad ai β n v m _=>?_,by simp,rfl⟩;have j:=(m x J).1;rw[hx]at j;simp only[az,aC]at j;obtain⟨bs,e1,e2⟩:=j;have ag:s.length=bs.size:=by rw[e2];simp
  have u:=tV (P:=P) (w:=w) (ad:=ad) (β:=β) (H:=H) (b:=false) (cap:=bs.size) (ρ:=ρ) (ρc:=n) ag C D (by omega) B (fun y z=>(m y (qc r z)).1);refine⟨.string (bs.extract f l),?_,?_,by simp[aD]⟩
  ·simp only[dk,r,e1];refine eE ?_;rw[Ur ab];simp only[fv,ha,c6 ab,g9,iz,Option.isSome_none];simp[u]
  ·simp only[az,aC];refine⟨_,rfl,?_⟩;rw[e2,<-h3,<-List.map_drop,Go.Lib.extract_data,hH]
 ·
  rename_i hx;obtain⟨g,h⟩:=h;obtain⟨sz,g⟩:=ix.1 g;obtain⟨e,X,g⟩:=kg g;obtain⟨l,h,C⟩:=kl h;obtain⟨f,h,D⟩:=kl h;obtain⟨A,B,F⟩:=h;obtain rfl:l=0:=by omega
  obtain rfl:f=0:=by omega
  refine⟨_,F,bu.same fun H w ad ai β n v m _=>?_,by simp,rfl⟩;have j:=(m x J).1;rw[hx]at j;simp only[az,aC]at j;have u:=tV (P:=P) (w:=w) (ad:=ad) (β:=β) (H:=H) (b:=true) (cap:=0) (ρ:=ρ) (ρc:=n) (len:=0) (d:=0) rfl C D (by omega) B (fun y z=>(m y (qc r z)).1);refine⟨.slice none 0 0,?_,by rw[hx];simp[az,aC],by rw[hx];simp[aD]⟩;simp only[dk,r,j];refine eE ?_;rw[tS g.gq];simp only[fv,ha,c6 g.gq,g9,iz,u,g.run];simp
 ·
  rename_i full q hx;obtain⟨l,h,C⟩:=kl h;obtain⟨f,h,D⟩:=kl h;obtain⟨A,B,h⟩:=h
  split at h
  case h_2=>exact h.elim
  rename_i sz g;obtain⟨U,h⟩:=h;obtain⟨e,X,g⟩:=kg g;refine⟨_,h,bu.same fun H w ad ai β n v m _=>?_,by simp,rfl⟩;have j:=(m x J).1;rw[hx]at j;simp only[az,aC]at j;obtain⟨al,off,cap,aj,Y,v1,v2,v3,v4,v5,sp,V,v6⟩:=j;have W:cap≠f->sp=none:=fun h=>V.resolve_right (by omega);have u:=tV (P:=P) (w:=w) (ad:=ad) (β:=β) (H:=H) (b:=true) (cap:=cap) (ρ:=ρ) (ρc:=n) rfl C D (by omega) B (fun y z=>(m y (qc r z)).1);refine⟨.slice (some (if cap=f then⟨al,off,sp⟩else⟨al,off+f*sz,none⟩)) (l-f) (cap-f),?_,?_,by simp[aD]⟩
  ·simp only[dk,r,v6];refine eE ?_;rw[tS g.gq];simp only[fv,ha,c6 g.gq,g9,iz,u,g.run]
   by_cases hc:cap=f
   ·simp[hc]
   ·obtain rfl:=W hc;simp[hc,kq]
  ·have I:((q.take l).drop f).length=l-f:=by simp;omega
   simp only[az,aC,I]
   by_cases E:q=[]
   ·subst E;simp at A;subst A;obtain rfl:f=0:=by omega
    by_cases hc:cap=0
    ·exact⟨al,off,cap,sz,[],by simp[bd],by simp,by intro i hi;simp at hi,fun _=>by simpa using hc,by simp,sp,.inr hc,by simp[hc]⟩
    ·exact⟨al,off,cap,sz,[],by simp[bd],by simp,by intro i hi;simp at hi,fun hf=>by simp at hf;simpa using v4 hf,by simp,none,.inl rfl,by simp[hc]⟩
   ·have Q:aj=sz:=uj (w:=w) (ad:=ad) (β:=β) (H:=H) (mf.2 v1) U (by simpa using E);subst Q;obtain⟨a,b,c,e1,e2,e3⟩:=My v1 f (l-f) (by omega);rw[<-hH]at e2;have ao:(q.drop f).take (l-f)=(q.take l).drop f:=by rw[hH]
    rw[I]at e2
    by_cases hc:cap=f
    ·obtain rfl:l=f:=by omega
     have O:b=[]:=by
      have:=(wE e2).2.2;simpa using this
     subst O;refine⟨al,off,cap-l,aj,[],by simpa using e2,fun _=>v2 E,by intro i hi;simp at hi,?_,by omega,sp,.inr (by omega),by simp[hc]⟩;intro _;omega
    ·refine⟨al,off+f*aj,cap-f,aj,b,e2,fun _=>v2 E,?_,?_,by omega,none,.inl rfl,by simp[hc]⟩
     ·have:=tY v3 (pre:=a.flatten) (xs:=b.flatten) (post:=c.flatten) (by rw[e1];simp);rw[e3]at this;exact this
     ·intro hf;simp at hf;have:=v4 hf.1;omega
 ·
  rename_i q hx;obtain⟨l,h,C⟩:=kl h;obtain⟨f,h,D⟩:=kl h;obtain⟨A,B,h⟩:=h
  split at h
  case h_2=>exact h.elim
  rename_i sz g;obtain⟨U,h⟩:=h;obtain⟨e,X,g⟩:=kg g;refine⟨_,h,bu.same fun H w ad ai β n v m _=>?_,by simp,rfl⟩;have j:=(m x J).1;rw[hx]at j;simp only[az,aC]at j;rcases j with⟨rfl,j⟩|⟨al,off,cap,aj,Y,v1,v2,v3,v5,sp,V,v6⟩
  ·simp at A;subst A;obtain rfl:f=0:=by omega
   have u:=tV (P:=P) (w:=w) (ad:=ad) (β:=β) (H:=H) (b:=true) (cap:=0) (ρ:=ρ) (ρc:=n) (len:=0) (d:=0) rfl C D (by omega) B (fun y z=>(m y (qc r z)).1);refine⟨.slice none 0 0,?_,by simp[az,aC],by simp[aD]⟩;simp only[dk,r,j];refine eE ?_;rw[tS g.gq];simp only[fv,ha,c6 g.gq,g9,iz,u,g.run];simp
  have W:cap≠f->sp=none:=fun h=>V.resolve_right (by omega);have u:=tV (P:=P) (w:=w) (ad:=ad) (β:=β) (H:=H) (b:=true) (cap:=cap) (ρ:=ρ) (ρc:=n) rfl C D (by omega) B (fun y z=>(m y (qc r z)).1);refine⟨.slice (some (if cap=f then⟨al,off,sp⟩else⟨al,off+f*sz,none⟩)) (l-f) (cap-f),?_,?_,by simp[aD]⟩
  ·simp only[dk,r,v6];refine eE ?_;rw[tS g.gq];simp only[fv,ha,c6 g.gq,g9,iz,u,g.run]
   by_cases hc:cap=f
   ·simp[hc]
   ·obtain rfl:=W hc;simp[hc,kq]
  ·have I:((q.take l).drop f).length=l-f:=by simp;omega
   simp only[az,aC,I];right
   by_cases E:q=[]
   ·subst E;simp at A;subst A;obtain rfl:f=0:=by omega
    by_cases hc:cap=0
    ·exact⟨al,off,cap,sz,[],by simp[bd],by simp,by intro i hi;simp at hi,by simp,sp,.inr hc,by simp[hc]⟩
    ·exact⟨al,off,cap,sz,[],by simp[bd],by simp,by intro i hi;simp at hi,by simp,none,.inl rfl,by simp[hc]⟩
   ·have Q:aj=sz:=uj (w:=w) (ad:=ad) (β:=β) (H:=H) (mf.2 v1) U (by simpa using E);subst Q;obtain⟨a,b,c,e1,e2,e3⟩:=My v1 f (l-f) (by omega);rw[<-hH]at e2;rw[I]at e2
    by_cases hc:cap=f
    ·obtain rfl:l=f:=by omega
     have O:b=[]:=by
      have:=(wE e2).2.2;simpa using this
     subst O;exact⟨al,off,cap-l,aj,[],by simpa using e2,fun _=>v2 E,by intro i hi;simp at hi,by omega,sp,.inr (by omega),by simp[hc]⟩
    ·refine⟨al,off+f*aj,cap-f,aj,b,e2,fun _=>v2 E,?_,by omega,none,.inl rfl,by simp[hc]⟩;have:=tY v3 (pre:=a.flatten) (xs:=b.flatten) (post:=c.flatten) (by rw[e1];simp);rw[e3]at this;exact this
 ·
  rename_i b aw aj off len hx
  split at h
  case h_2=>exact h.elim
  rename_i k aq an q S;obtain⟨rfl,rfl,g,M,hlen,h⟩:=h;obtain⟨l,h,C⟩:=kl h;obtain⟨f,h,D⟩:=kl h;obtain⟨A,B,F⟩:=h;obtain⟨e,X,g⟩:=kg g
  have key:∀(H:Heap)(w:db)(ad ai:Nat->Prop)(β:Bd)(n:da->c9),bU P w ad β H ai->(∀x∈o.op.operands,az P w ad β H (ρ x) (n x)/\aD (aH H) (ρ x))->
   H[b]?=some (.arr k aw aj q)->q.length<=β.cap b/\(dk n o).run P w=.ok (.value (.slice (some (if β.cap b-off=f then⟨β.al b,off*aj,none⟩else⟨β.al b,off*aj+f*aj,none⟩)) (l-f) (β.cap b-off-f))) w:=by
   intro H w ad ai β n v m t;have j:=(m x J).1;rw[hx]at j;simp only[az,bN,bR]at j;obtain⟨_,_,j⟩:=j.2 k q t;have j:=j M;rcases v.cC b _ t with hold|⟨cs,am,Y,rest,k1,k2,k3,k4,k5,k6⟩
   ·exact(M hold).elim
   have u:=tV (P:=P) (w:=w) (ad:=ad) (β:=β) (H:=H) (b:=true) (cap:=β.cap b-off) (ρ:=ρ) (ρc:=n) rfl C D (by omega) B (fun y z=>(m y (qc r z)).1);refine⟨k5,?_⟩;simp only[dk,r,j];refine eE ?_;rw[tS g.gq];simp only[fv,ha,c6 g.gq,g9,iz,u,g.run]
   by_cases hc:β.cap b-off=f
   ·simp[hc]
   ·simp[hc,kq]
  split at F
  ·rename_i Z;subst Z;refine⟨_,F,bu.same fun H w ad ai β n v m ak=>?_,by simpa using S,rfl⟩;have t:H[b]?=some (.arr k aw aj q):=by simpa using ak
   obtain⟨ac,L⟩:=key H w ad ai β n v m t;refine⟨_,L,?_,?_⟩
   ·simp only[az,bN,bR];refine⟨by simp[hl],fun ah ae G=>?_⟩;unfold eS at G;rw[t]at G;cases G;exact⟨by omega,fun R=>(M R).elim,fun _=>by simp⟩
   ·simp only[aD];exact⟨_,t,h6 _⟩
  ·rename_i Z
   split at F
   ·rename_i aa;subst aa;refine⟨_,F,bu.same fun H w ad ai β n v m ak=>?_,by simpa using S,rfl⟩;have t:H[b]?=some (.arr k aw aj q):=by simpa using ak
    obtain⟨ac,L⟩:=key H w ad ai β n v m t;refine⟨_,L,?_,by simp[aD]⟩;simp only[az,aC]
    by_cases hc:β.cap b-off=f
    ·exact⟨β.al b,off*aj,β.cap b-off-f,aj,[],by simp[bd],by simp,by intro i hi;simp at hi,by simp,by simp,by simp[hc]⟩
    ·exact⟨β.al b,off*aj+f*aj,β.cap b-off-f,aj,[],by simp[bd],by simp,by intro i hi;simp at hi,by simp,by simp,by simp[hc]⟩
   ·rename_i aa;refine⟨_,F,bu.same fun H w ad ai β n v m ak=>?_,by simpa using S,rfl⟩;have t:H[b]?=some (.arr k aw aj q):=by simpa using ak
    obtain⟨ac,L⟩:=key H w ad ai β n v m t;refine⟨_,L,?_,?_⟩
    ·simp only[az,bN,bR];refine⟨by simp[hl],fun ah ae G=>?_⟩;unfold eS at G;rw[t]at G;cases G;refine⟨by omega,fun R=>(M R).elim,fun _=>?_⟩;have hc:¬(β.cap b-off=f):=by omega
     rw[if_neg hc,ip,Nat.sub_sub]
    ·simp only[aD];exact⟨_,t,h6 _⟩
 ·exact h.elim
theorem WA{T:dg}{x:da}{lo hi:Option da}{d:da}(g:o.op= .slice T x lo hi (some d)){H0:Heap}{K:aY->Prop}(h:rG P T H0 (ρ x) (lo.map ρ) (hi.map ρ) (ρ d) K):
 ∃e,K e/\bu P o ρ base e/\(∀p∈e.ak,H0[p.1]?=some p.2)/\e.aJ=[]:=by
 unfold rG at h;have S:x∈o.op.operands:=by rw[g];simp[gj]
 split at h
 case h_2=>exact h.elim
 rename_i b aw aj off len hx
 split at h
 case h_2=>exact h.elim
 rename_i k ag ab es V;obtain⟨rfl,rfl,c,E,hlen,X,h⟩:=h;obtain⟨i,h,Q⟩:=kl h;obtain⟨I,h,R⟩:=kl h;have J:gA ((some d).map ρ) 0 (fun m=>off+m<=es.length/\i<=m/\I<=i/\K {v:=.p .undef,ak:=[(b,.arr k aw aj es)]}):=h;obtain⟨B,h,U⟩:=kl J;obtain⟨ac,C,L,M⟩:=h;obtain⟨sz,c⟩:=ix.1 c;obtain⟨e,af,c⟩:=kg c;refine⟨_,M,bu.same fun H w ad ai β f W n ak=>?_,by simpa using V,rfl⟩;have F:H[b]?=some (.arr k aw aj es):=by simpa using ak
 have a:=(n x S).1;rw[hx]at a;simp only[az,bN,bR]at a;obtain⟨_,_,a⟩:=a.2 k es F;have a:=a E;rcases W.cC b _ F with hold|⟨cs,Z,aa,rest,k1,k2,k3,k4,k5,k6⟩
 ·exact(E hold).elim
 have s:∃q,ρ d=.p (.int q B):=by
  rcases U with⟨h,_⟩|⟨y,q,A,a⟩
  ·cases h
  ·cases A;exact⟨q,a⟩
 obtain⟨q,s⟩:=s;have j:=(n d (by rw[g];simp[gj])).1;rw[s]at j;simp only[az,aC]at j;have O:∃y G,hi=some y/\ρ y=.p (.int G i):=by
  rcases Q with⟨rfl,_⟩|h
  ·simp at X
  ·exact h
 obtain⟨y,G,rfl,A⟩:=O;have l:=(n y (qc g (.inl rfl))).1;rw[A]at l;simp only[az,aC]at l;have N:(fm true len (β.cap b-off) (lo.map f) (some (f y)) (some (f d))).run P w=.ok (I,i,B) w:=by
  have D:(B:Int)<=((β.cap b-off:Nat):Int):=by omega
  rcases R with⟨rfl,rfl⟩|⟨z,ae,rfl,Y⟩
  ·simp[fm,j,l,gb,asIntOf,D,C]
  ·have u:=(n z (qc g (.inr rfl))).1;rw[Y]at u;simp only[az,aC]at u;simp[fm,j,l,u,gb,asIntOf,D,C,L]
 have t:∃r,(ge T (f x) (lo.map f) (some (f y)) (some (f d))).run P w=.ok r w:=by
  rw[tS c.gq,a];simp only[fv,ha,c6 c.gq,g9,N,c.run];exact⟨_,rfl⟩
 obtain⟨r,t⟩:=t;refine⟨r,?_,by simp only[az,aC],by simp[aD]⟩;simp only[dk,g,i0];exact eE t
end
section
variable{P:dl}{w:db}{ad ai:Nat->Prop}{β:Bd}{H:Heap}
variable{o:Oper}{ρ:da->AV}{base:Nat}
theorem pJ{H0 H:Heap}{a:AV}{c:List AV}(h:gK H0 a=some c)(ak:∀p∈dD H0 a,H[p.1]?=some p.2):gK H a=some c:=by
 cases a with
 |sl b aw aj off len=>
  simp only[gK]at h⊢;simp only[dD]at ak
  split at h
  case h_2=>simp at h
  rename_i k g f e d;rw[d]at ak;have:=ak _ (hV.2 rfl);simp only at this;rw[this];exact h
 |p v=>cases v<;>exact h
 |_=>simp[gK]at h
theorem nN{H0:Heap}{a:AV}:∀p∈dD H0 a,H0[p.1]?=some p.2:=by
 intro p b;unfold dD at b
 split at b
 all_goals first
  |(split at b
    ·rename_i o c;simp at b;subst b;exact c
    ·simp at b)
  |simp at b
theorem wz{sz m:Nat}{al off n c:Nat}{w:db}{xs:List c9}(e:xs.length=m*sz)(hc:gL w al off xs):(e6 sz m (.slice (some ⟨al,off,none⟩) n c)).run P w=.ok xs.toArray w:=by
 refine ej w sz m _ n c xs e ?_;intro j v a;rw[kq];obtain⟨b,d⟩:=hr.1 a;rw[hc j b,d]
theorem Cj{sz n c:Nat}{a:Addr}{w:db}:(e6 sz 0 (.slice (some a) n c)).run P w=.ok #[] w:=
 ej w sz 0 a n c [] (by simp) (fun j v b=>by simp at b)
theorem xl{sz:Nat}{a:AV}{u:List AV}{v:c9}(g:gK H a=some u)(I:bU P w ad β H ai)(i:az P w ad β H a v)(S:aD (aH H) a)(hs:fe P sz u):
 ∃d,Row P w ad β H sz u d/\aV (aH H) u/\e9 v=pure u.length/\
  ∀w':db,w'.heap=w.heap->∀m,m<=u.length->(e6 sz m v).run P w'=.ok (d.take m).flatten.toArray w':=by
 have G:∀{f:List AV}{d:List (List c9)}(m:Nat),Row P w ad β H sz f d->m<=f.length->(d.take m).flatten.length=m*sz:=by
  intro f d m h j;obtain⟨x,y,z,e1,e2,e3,e4,e5⟩:=jG h 0 m (by omega);have hx:x=[]:=by have:=(fN e4).1;simpa using this
  have O:y.length=m:=by have:=(fN e2).1;simp at this;omega
  subst hx;have K:d.take m=y:=by rw[e1];simp[O]
  rw[K];have:=(fN e2).2;rw[this];simp[j]
 have cells:∀{al off:Nat}{d:List (List c9)}(w':db),w'.heap=w.heap->gL w al off d.flatten->∀m,gL w' al off (d.take m).flatten:=by
  intro al off d w' q hc m;have J:gL w' al off d.flatten:=hc.same (by rw[q]);have:=tY J (pre:=[]) (xs:=(d.take m).flatten) (post:=(d.drop m).flatten) (by
   rw[List.nil_append,<-hU,List.take_append_drop])
  simpa using this
 cases a with
 |p t=>
  cases t with
  |aW=>
   simp[gK]at g;subst g;simp only[az,aC]at i;subst i;exact⟨[],hJ.2 rfl,by simp[aV],rfl,fun w' _ m j=>by simp[e6]⟩
  |bP full f=>
   simp[gK]at g;subst g;simp only[az,aC]at i;obtain⟨al,off,cap,aj,d,v1,v2,v3,v4,v5,sp,E,rfl⟩:=i;rcases E with rfl|rfl
   case inr=>
    obtain rfl:f=[]:=hA.1 (by omega);exact⟨[],hJ.2 rfl,by simp[aV],rfl,fun w' _ m j=>by
     obtain rfl:m=0:=by simpa using j
     exact Cj⟩
   have h:Row P w ad β H aj (f.map .p) d:=mf.2 v1;have o:Row P w ad β H sz (f.map .p) d:=by
    by_cases n:f.map AV.p=[]
    ·rw[n]at h⊢;rw[hJ]at h⊢;exact h
    ·rw[<-uj h hs n];exact h
   refine⟨d,o,jb _ _,by simp[e9],fun w' q m j=>?_⟩;exact wz (G m o j) (cells w' q v3 m)
  |seq f=>
   simp[gK]at g;subst g;simp only[az,aC]at i;rcases i with⟨rfl,rfl⟩|⟨al,off,cap,aj,d,v1,v2,v3,v5,sp,E,rfl⟩
   ·exact⟨[],hJ.2 rfl,by simp[aV],rfl,fun w' _ m j=>by simp[e6]⟩
   rcases E with rfl|rfl
   case inr=>
    obtain rfl:f=[]:=hA.1 (by omega);exact⟨[],hJ.2 rfl,by simp[aV],rfl,fun w' _ m j=>by
     obtain rfl:m=0:=by simpa using j
     exact Cj⟩
   have h:Row P w ad β H aj (f.map .p) d:=mf.2 v1;have o:Row P w ad β H sz (f.map .p) d:=by
    by_cases n:f.map AV.p=[]
    ·rw[n]at h⊢;rw[hJ]at h⊢;exact h
    ·rw[<-uj h hs n];exact h
   refine⟨d,o,jb _ _,by simp[e9],fun w' q m j=>?_⟩;exact wz (G m o j) (cells w' q v3 m)
  |str s=>
   simp[gK]at g;subst g;simp only[az,aC]at i;obtain⟨bs,rfl,rfl⟩:=i;have N:sz=1\/bs.data.toList=[]:=by
    cases B:bs.data.toList with
    |nil=>exact .inr rfl
    |cons a r=>
     rw[B]at hs;simp[fe,aa,aM,bJ]at hs;exact .inl hs.1.symm
   have h:Row P w ad β H sz ((bs.data.toList.map (·.toNat)).map fun c=>.p (.int .u8 (c:Nat))) (bs.data.toList.map fun c=>[hm .u8 c.toNat]):=by
    rcases N with rfl|B
    ·generalize bs.data.toList=l
     induction l with
     |nil=>exact hJ.2 rfl
     |cons a r F=>exact rD.2 ⟨_,_,rfl,by simp[bp,aS],rfl,F⟩
    ·rw[B];exact hJ.2 rfl
   refine⟨_,h,by rw[cJ];intro v i;simp at i;obtain⟨a,_,rfl⟩:=i;simp[aD],by simp[e9],fun w' _ m _=>?_⟩;have e:((bs.data.toList.map fun c=>[hm .u8 c.toNat]).take m).flatten=(bs.data.toList.take m).map fun c=>hm .u8 c.toNat:=by
    rw[<-h3];generalize bs.data.toList.take m=l
    induction l with
    |nil=>rfl
    |cons a r F=>simp[F]
   rw[e];simp only[e6,hb];congr 1;apply b2;simp[ByteArray.data_extract]
  |_=>simp[gK]at g
 |sl b aw aj off len=>
  simp only[gK]at g
  split at g
  case h_2=>simp at g
  rename_i k T R f D
  split at g
  case isFalse=>simp at g
  rename_i hc;obtain⟨rfl,rfl,C⟩:=hc;simp at g;subst g;simp only[az,bN,bR]at i;obtain⟨_,v2,v3⟩:=i.2 k f D;have M:((f.drop off).take len).length=len:=by simp;omega
  by_cases A:df k f
  ·rw[v2 A];have L:=A.2;subst L;simp at C;obtain⟨rfl,rfl⟩:=C;exact⟨[],hJ.2 (by simp),by simp[aV],rfl,fun w' _ m j=>by simp[e6]⟩
  ·rw[v3 A];rcases I.cC b _ D with hold|⟨cs,Q,d,rest,k1,k2,k3,k4,k5,k6⟩
   ·exact(A hold).elim
   obtain⟨x,y,z,e1,e2,e3,e4,e5⟩:=jG k2 off len C;have o:Row P w ad β H sz ((f.drop off).take len) y:=by
    by_cases n:(f.drop off).take len=[]
    ·rw[n]at e2⊢;rw[hJ]at e2⊢;exact e2
    ·rw[<-uj e2 hs n];exact e2
   refine⟨y,o,?_,by rw[M];rfl,fun w' q m j=>?_⟩
   ·rw[cJ];intro v i;exact cJ.1 (I.refs b _ D) v (hS (hR i))
   ·refine wz (G m o j) (cells w' q ?_ m);rw[<-e3];exact l8 k1 (post:=z.flatten++rest) (by rw[k3,e1];simp)
 |_=>simp[gK]at g
theorem Wi{T X e:dg}{i:dq}{f:c9}{sz:Nat}(a:rA P T sz e i)(b:iF P X=true)(y:i.zero=some f)(A:dg){p:Option Addr}{sLen sCap n:Nat}{j h:Array c9}(x:c9)
 (hx:e9 x=pure n)(s:(e6 sz sLen (.slice p sLen sCap)).run P w.drew=.ok j w.drew)(aU:(e6 sz n x).run P w.drew=.ok h w.drew)(q:sCap<sLen+n)(g:sLen+n<=di):
 ∃cap,sLen+n<=cap/\(e7 #[T,X] A #[.slice p sLen sCap,x]).run P w=
  .ok (.slice (some ⟨w.heap.size,0,none⟩) (sLen+n) cap) {w.drew with heap:=w.heap.push (.cells (j++h++fa f.cells (cap-(sLen+n))) e)}:=by
 refine⟨grownCap w (sLen+n) sCap e,by simp[grownCap,Question.cut],?_⟩;have o:∃d,P.underlying X=some d/\∀k,d≠.int k:=by
  unfold iF at b
  split at b
  ·simp at b
  ·rename_i d c v;exact⟨_,v,c⟩
  ·simp at b
 obtain⟨d,c,B⟩:=o;have r:¬(sLen+n<=sCap):=by omega
 have m:¬(9223372036854775807<((sLen:Int)+(n:Int))):=by unfold di at g;omega
 have C:fb (sLen+n) sCap*i.bytes<=281474976710656:=by
  refine growslice_fits q ?_;have:=ii g (Nat.le_of_lt a.bytes);unfold di at this;omega
 have l:¬(281474976710656<fb (sLen+n) sCap*i.bytes):=by omega
 have t:(sizeOf e).run P w=.ok sz w:=a.run w;have u:∀w:db,(typeInfo e).run P w=.ok i w:=fun w=>by simp[typeInfo,a.info]
 have z:∀w:db,(zeroValue e).run P w=.ok f w:=fun w=>by simp[zeroValue,typeInfo,a.info,y]
 simp[e7,c6 a.gq,c6 c,t,u,z,hx,r,m,l,Question.forced,s,aU,newRow,grownCap,Array.append_assoc];rfl
theorem Ju{T X e:dg}{i:dq}{sz:Nat}(j:rA P T sz e i)(c:iF P X=true)(t:dg){g off:Nat}{sLen sCap n:Nat}{b:Array c9}{h:dg}{a:List c9}(x:c9)
 (hx:e9 x=pure n)(o:w.heap[g]?=some (.cells b h (0,0)))(aU:(e6 sz n x).run P w=.ok a.toArray w)(l:∀u∈a,u.oneCell'=true)(q:sLen+n<=sCap)(p:off+sLen*sz+a.length<=b.size):
 (e7 #[T,X] t #[.slice (some ⟨g,off,none⟩) sLen sCap,x]).run P w=
  .ok (.slice (some ⟨g,off,none⟩) (sLen+n) sCap) (w.setRow g (b.toList.take (off+sLen*sz)++a++b.toList.drop (off+sLen*sz+a.length)).toArray):=by
 have m:∃d,P.underlying X=some d/\∀k,d≠.int k:=by
  unfold iF at c
  split at c
  ·simp at c
  ·rename_i d f s;exact⟨_,s,f⟩
  ·simp at c
 obtain⟨d,f,v⟩:=m;have aK:=em P g (off+sLen*sz) h a 0 b w o (by simpa using p) l;simp only[h9]at aK;have r:(sizeOf e).run P w=.ok sz w:=j.run w;simp[e7,c6 j.gq,c6 f,r,hx,q,aU,kq,aK]
theorem Vi{T X e:dg}{i:dq}{sz:Nat}(f:rA P T sz e i)(b:iF P X=true)(m:dg){p:Option Addr}{sLen sCap:Nat}(x:c9)
 (hx:e9 x=pure 0)(aU:(e6 sz 0 x).run P w=.ok #[] w)(g:sLen<=sCap):
 (e7 #[T,X] m #[.slice p sLen sCap,x]).run P w=.ok (.slice p sLen sCap) w:=by
 have j:∃d,P.underlying X=some d/\∀k,d≠.int k:=by
  unfold iF at b
  split at b
  ·simp at b
  ·rename_i d c l;exact⟨_,l,c⟩
  ·simp at b
 obtain⟨d,c,n⟩:=j;have h:(sizeOf e).run P w=.ok sz w:=f.run w;cases p with
 |none=>simp[e7,c6 f.gq,c6 c,h,hx,g,aU]
 |some a=>simp[e7,c6 f.gq,c6 c,h,hx,g,aU,storeCells]
theorem bY.drew{aF:Nat->Prop}{w1 w':db}{aI:Bd}{H':Heap}(a:w1.heap=w.heap)(b:w1.os=w.os/\w1.output=w.output)(h:bY P ai ad w1 β H aF w' aI H'):bY P ai ad w β H aF w' aI H':=
 ⟨h.bV,h.fresh,⟨by rw[<-a];exact h.ext.size,fun k hk=>by rw[<-a];exact h.ext.same k hk,h.ext.io.1.trans b.1,h.ext.io.2.trans b.2⟩,h.step,h.rel,h.fh,h.loop⟩
theorem Jv(z:Array c9)(n:Nat):(fa z n).size=n*z.size:=by simp[fa]
theorem xu{aj:Nat}:∀{b:List AV}{a:List (List c9)},Row P w ad β H aj b a->∀c∈a.flatten,c.oneCell'=true
 |[],a,h=>by rw[hJ]at h;subst h;simp
 |v::b,a,h=>by
  rw[rD]at h;obtain⟨c,cs,rfl,d,_,e⟩:=h;intro x hx;simp only[hC,hE]at hx;exact hx.elim (Aj d x) (xu e x)
theorem Row.mono{w':db}{aF:Nat->Prop}{aI:Bd}{H':Heap}(hI:∀k,ad k->aF k)(hs:∀k,ad k->w'.heap[k]?=w.heap[k]?)(aK:cj β H aI H'){aj:Nat}{a:List AV}{b:List (List c9)}(c:aV (aH H) a)
 (h:Row P w ad β H aj a b):Row P w' aF aI H' aj a b:=bM.mono hI hs aK _ _ _ c h
theorem zm{c:Call}{s x:da}(e:o.op= .call c)(hc:c.callee= .builtin .append)(b:c.args.toList=[s,x]){a:da->c9}{w w':db}{v:c9}
 (h:(e7 c.argTypes o.type #[a s,a x]).run P w=.ok v w'):(dk a o).run P w=.ok (.value v) w':=by
 have d:c.args=#[s,x]:=by apply b2;simpa using b
 simp only[dk,e,resolve,hc,d];simp[invoke,builtin,h]
theorem WN{c:Call}{s x:da}(e:o.op= .call c)(hc:c.callee= .builtin .copy)(b:c.args.toList=[s,x]){a:da->c9}{w w':db}{v:c9}
 (h:(fl c.argTypes o.type #[a s,a x]).run P w=.ok v w'):(dk a o).run P w=.ok (.value v) w':=by
 have d:c.args=#[s,x]:=by apply b2;simpa using b
 simp only[dk,e,resolve,hc,d];simp[invoke,builtin,h]
end
end Go.ag
