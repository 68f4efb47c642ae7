import Derived.Test.YtenbmieafgdjaaaGreatDoorRThA
import Derived.RangeFuncRecord
import Derived.RangeFuncNested
import Derived.Lib.Strings
import Derived.Laws.Append
/- Parts of a proof. -/
set_option linter.unusedSimpArgs false
set_option linter.unusedVariables false
set_option linter.unusedSectionVars false
open Array renaming replicate->bo, getElem?_eq_some_iff->bv, range->b0, mem_toList_iff->b1, ext'->b2, getD_eq_getD_getElem?->b3, mapM_eq_mapM_toList->b4, mem_of_getElem?->b5, getElem?_toList->cb, getElem_toList->cc, foldl_toList->ce, toList_map->ck, getD->cv
open Bool renaming false_eq_true->cx, and_eq_true->cy
open Go renaming run_underlying->c6, Value->c9, Operand->da, World->db, TypeId->dg, execOp->dk, Program->dl, Deferred->dp, TypeInfo->dq, Frame->dz, ResultVar->ea, Steps->eb, Machine->ec, FuncId->ed, run_newObj->ee, setRow_other->ei, run_firstCells_some->ej, run_storeCells_at->em, IntKind->en, step_lone_go->eo, setRow_size->eq, setRow_heap->ew
open Go.Builtin renaming firstCells->ey, append_->e6, len_->e7, lenOf->e8, zeroCells->e9, nextslicecap->fb, copy_->fl
open Go.Instr renaming sliceBounds->fm, slice->fv, sureAddr->fV, sliceBound->gb, indexAt->gc, sliceAt->ge, fill->gg, build->gi
open Go.Op renaming operands->gj, unary->gm, intArith->gt, intBits->gx
open Go.Program renaming cellsOf->gy, underlying->gA, underlyingId->g0
open Go.Region renaming wanted->g7
open Go.Result renaming andThen_ok->g8
open Go.Sem renaming run_bind->g9, run_pure->ha, run_map->hb, run->hd
open Go.Steps renaming one->he, trans->hg, refl->hh
open Go.Value renaming oneCell'->hj, int->hl, cells->hm
open Go.World renaming putObj_heap_other->hn, size_alloc->ho
open List renaming getElem?_eq_some_iff->hp, replicate->hr, getElem?_set_self->ht, sum_replicate_nat->hv, take_replicate->hw, getElem?_eq_getElem->hy, length_eq_zero_iff->hz, getElem?_replicate->hA, flatten_cons->hB, append_assoc->hC, mem_append->hD, mem_of_getElem?->hE, getElem?_set_ne->hF, drop_take->hG, range'->hH, length->hK, mem_or_eq_of_mem_set->hL, getElem_append_right->hM, getElem_append_left->hN, eq_of_mem_replicate->hO, getElem?_cons_succ->hP, mem_of_mem_take->hQ, mem_of_mem_drop->hR, replicate_succ->hS, flatten_append->hT, mem_singleton->hU, getElem?_map->hV, length_cons->hW, getElem_mem->hX, all_eq_true->hZ, append_nil->h0, mapM_cons->h1, map_take->h2, map_cons->h3, mem_map->h4
open Nat renaming le_refl->h5, min_eq_left->h6, lt_irrefl->h7, add_zero->h8, add_sub_cancel_left->h9, mul_le_mul->ih, add_assoc->ii, add_mul->ik
open Option renaming isSome_iff_exists->ip, map_none->ix, bind_some->iz, map_some->iL
open Option.some renaming injEq->i0, inj->i1
open Prod renaming snd->i2, fst->i3
namespace Go.aj
set_option linter.unusedSectionVars false
variable[Gl]
section
variable{P:dl}{ag:ed->Bool}{n N:Nat}
variable{fr:dz}{k:List Item}{cs:List dz}{ops:Array Oper}{i:Nat}{r:List Nat}{ds:List dp}
theorem Tx{o:Oper}{f:da}{a:Array da}{p:Array dg}{b:Nat}{H':Heap}{v:AV}{K:St->Prop}{s:St}{ah ad:Nat->Prop}{β:Bd}{t:Array c9}{w:db}
 (l:o.op=.call {callee:=.value f,args:=a,argTypes:=p})(hf:ev s.env f=.map b)(m:ir P b s.heap (a.toList.map (ev s.env)) H' v)(x:K ⟨put o.dst v s.env,H'⟩)
 (d:cK P n ah ad β s t w)(A:iT n o=true)(j:ops[i]?=some o)(D:g7 o (yielded ops t)=true):
 kl P n N fr k cs ops ah ad w β s.heap (lone (bw fr t ds (.inRegion ops (i::r)::k)) cs w) r ds K:=by
 have e:=(nO d f).1;rw[hf]at e;simp only[au,bK,bO]at e;have B:=e.2.2 m.1;obtain⟨y,z⟩:=u6 d a.toList;have h:(dk (fA t) o).run P w=(Instr.yield (β.al b) (a.toList.map (fA t)).toArray).run P w:=by
  simp only[dk,l,resolve,B,Deferred.ofValue,g9,ha,g8,invoke];congr 2;exact b2 (by simp)
 have C:∀c,o.op≠.defer c:=fun c hc=>by rw[l]at hc;cases hc
 obtain⟨g,tmps,assign,body,q,u⟩:=m.2 w ad ah β _ d.heap y z;rw[q]at h;obtain⟨E,w',aH,aD,g1,g2,g3,g4⟩:=u (bw fr t ds (.inRegion ops (i::r)::k)) cs;refine⟨_,aD,aH,_,w',x,?_,d.put A g2 g3 g4,g2.fe⟩;rw[<-nq j];exact(he (I4 j D C h)).trans g1
theorem Kp(y:lJ P ag){d:Bool}{o:Oper}{K:St->Prop}{s:St}{ah ad:Nat->Prop}{β:Bd}{t:Array c9}{w:db}
 (h:jw P ag d o K s)(a:cK P n ah ad β s t w)(c:iT n o=true)(j:ops[i]?=some o)(l:g7 o (yielded ops t)=true):
 kl P n N fr k cs ops ah ad w β s.heap (lone (bw fr t ds (.inRegion ops (i::r)::k)) cs w) r ds K:=by
 have E:=Td h;have z:fy P ag o (ev s.env) s.heap (fun e=>K (e.app o.dst s))->kl P n N fr k cs ops ah ad w β s.heap (lone (bw fr t ds (.inRegion ops (i::r)::k)) cs w) r ds K:=by
  intro h;obtain⟨e,m,hs,ak,aJ⟩:=y o _ _ _ (fun v=>rfl) h;obtain⟨nx,I,w',aH,aD,A,B,u,C,D⟩:=hs.use a.heap (fun x _=>nO a x) ak (fun p F=>(aJ p F).1);exact⟨_,aD,aH,_,w',m,.one (sy j l E A B),a.put c u C D,u.fe⟩
 unfold jw at h
 split at h
 ·rename_i f args H q
  split at h
  ·rename_i g fi ca hf;exact IQ q (.inr ⟨fi,ca,hf,rfl,rfl⟩) h a c j l
  ·rename_i g fi ca hf;exact IQ q (.inl hf) h a c j l
  ·rename_i b hf;obtain⟨H',v,G,m⟩:=h;exact Tx q hf G m a c j l
  ·exact h.elim
 ·exact z h
theorem kl.mono{m:ec}{K a:St->Prop}{ah ad:Nat->Prop}{w:db}{β:Bd}{H:Heap}(h:kl P n N fr k cs ops ah ad w β H m r ds K)(hk:∀s,K s->a s):kl P n N fr k cs ops ah ad w β H m r ds a:=by
 obtain⟨s',aD,aH,t',w',b,c⟩:=h;exact⟨s',aD,aH,t',w',hk _ b,c⟩
theorem xN{s:St}{ah ad:Nat->Prop}{β:Bd}{t:Array c9}{w:db}(e:cK P n ah ad β s t w)(l:∀o∈ops.toList,iT n o=true)(j:Nat):
 (∀b,guardOf ops j s.env=.p (.bool b)->yielded ops t j=some b)/\(guardOf ops j s.env=.p (.aE [])->yielded ops t j=none):=by
 unfold guardOf yielded;cases k:ops[j]? with
 |none=>simp
 |some f=>
  simp only[iz];cases g:f.dst with
  |none=>simp
  |some d=>
   simp only[iz];have h:d<t.size:=by
    have:=l f (by rw[b1];exact b5 k);unfold iT at this;rw[g]at this;rw[e.size];simpa using this
   have a:=e.env d;have i:t[d]?=some (t.getD d undef):=by simp[cv,h]
   rw[i];constructor
   ·intro b c;rw[c]at a;simp only[au,aA]at a;rw[a]
   ·intro c;rw[c]at a;simp only[au,aA,bn]at a;obtain⟨xs,rfl,a⟩:=a;rw[a]
theorem Jt(f:lJ P ag){d:Bool}(x:∀o∈ops.toList,iT n o=true):∀(l:List Oper)(i:Nat){K:St->Prop}{s:St}{ah ad:Nat->Prop}{β:Bd}{t:Array c9}{w:db},
 ops.toList.drop i=l->gR P ag d ops l K s->cK P n ah ad β s t w->
 kl P n N fr k cs ops ah ad w β s.heap (lone (bw fr t ds (.inRegion ops (hH i l.length)::k)) cs w) [] ds K
 |[],i,K,s,ah,ad,β,t,w,v,h,a=>⟨s,ad,β,t,w,h,hh _ _,a,dJ.refl _ _ _ _ _ _⟩
 |o::l,i,K,s,ah,ad,β,t,w,v,h,a=>by
  have e:ops[i]?=some o:=by
   have:(ops.toList.drop i)[0]?=some o:=by rw[v];rfl
   rw[List.getElem?_drop]at this;simpa using this
  have F:ops.toList.drop (i+1)=l:=by
   rw[<-List.drop_drop,v];rfl
  have u:iT n o=true:=x o (by rw[b1];exact b5 e);have g:∀{ah ad w β H}{m:ec},kl P n N fr k cs ops ah ad w β H m (hH (i+1) l.length) ds (gR P ag d ops l K)->kl P n N fr k cs ops ah ad w β H m [] ds K:=by
   intro ah ad w β H m E;obtain⟨s',aD,aH,L,w',A,B,C,D⟩:=E;obtain⟨s2,z,J,t2,I,g1,g2,g3,g4⟩:=Jt f x l (i+1) F A C;exact⟨s2,z,J,t2,I,g1,B.trans g2,g3,D.trans g4⟩
  rw[hW,List.range'_succ]
  have skip:gR P ag d ops l K ⟨put o.dst (.p (.aE [])) s.env,s.heap⟩->g7 o (yielded ops t)=false->
   kl P n N fr k cs ops ah ad w β s.heap (lone (bw fr t ds (.inRegion ops (i::hH (i+1) l.length)::k)) cs w) [] ds K:=by
   intro hk G;refine g ⟨_,ad,β,_,w,hk,.one (JE e G),a.put u (bR.refl a.heap) (by simp[au,aA,bn,undef]) (by simp[aC]),dJ.refl _ _ _ _ _ _⟩
  simp only[gR]at h
  split at h
  ·rename_i c;exact g (Kp f h a u e (by simp[g7,c]))
  ·rename_i j M c;obtain⟨g1,g2⟩:=xN a x j
   split at h
   ·rename_i b q;have y:=g1 b q
    split at h
    ·rename_i r;exact g (Kp f h a u e (by simp[g7,c,y,r]))
    ·rename_i r;exact skip h (by simp[g7,c,y,r])
   ·rename_i q;exact skip h (by simp[g7,c,g2 q])
   ·exact h.elim
theorem aCS{H:Heap}{b v:Nat}(h:H[b]?=none\/H[b]?=some .hole):¬aG H (b,v):=by
 rintro⟨o,a,c⟩;rcases h with h|h
 ·simp only at a;rw[h]at a;cases a
 ·simp only at a;rw[h]at a;cases a;exact c
theorem pF.step{s s':St}{β:Bd}(hf:pF s s'):b9 β s.heap β s'.heap:=by
 refine⟨?_,?_,?_,?_,?_⟩
 ·rintro b _ ⟨fz,t,a⟩;rcases hf.heap b _ a with h|h|⟨_,k,z,h,_⟩|⟨v,v',h,_,_⟩
  ·cases h
  ·exact⟨⟨fz,t,h⟩,rfl⟩
  ·cases h
  ·exact⟨⟨_,_,h⟩,rfl⟩
 ·rintro b _ ⟨fz,t,a⟩;rcases hf.heap b _ a with h|h|⟨_,k,z,h,_⟩|⟨v,v',_,h,_⟩
  ·cases h
  ·exact⟨⟨fz,t,h⟩,rfl⟩
  ·cases h
  ·cases h
 ·rintro b _ ⟨o,a,c⟩;rcases hf.heap b _ a with h|h|⟨_,k,z,h,_⟩|⟨v,v',_,h,_⟩
  ·rw[h]at c;exact c.elim
  ·exact⟨⟨o,h,c⟩,rfl⟩
  ·rw[h]at c;exact c.elim
  ·rw[h]at c;exact c.elim
 ·intro b ar ai k d hi a;rcases hf.heap b _ a with h|h|⟨e,_⟩|⟨v,v',_,h,_⟩
  ·cases h
  ·exact⟨k,d,h,h5 _,Iff.rfl,fun _=>⟨rfl,rfl⟩⟩
  ·exact(aCS e hi).elim
  ·cases h
 ·rintro b _ ⟨L,a⟩;rcases hf.heap b _ a with h|h|⟨_,k,z,h,_⟩|⟨v,v',_,h,_⟩
  ·cases h
  ·exact⟨⟨L,h⟩,rfl⟩
  ·cases h
  ·cases h
section ZH
variable{w:db}{ad:Nat->Prop}{β:Bd}{T:Heap}
theorem Oh{b ar ai off len:Nat}(h:ar=0/\off=0/\len=0/\∃k z,T[b]?=some (.arr k 0 z [])/\k.gr=true):bK P β T (.sl b ar ai off len) (.slice none 0 0):=by
 obtain⟨rfl,rfl,rfl,k,z,c,d⟩:=h;refine⟨by simp[hj],fun f e a=>?_⟩;unfold eD at a;rw[c]at a;cases a;exact⟨by simp,fun _=>rfl,fun h=>(h ⟨d,rfl⟩).elim⟩
mutual
theorem fP.cells:∀(v:PV)(x:AV)(cs:List c9),fP T v x->aP P w ad v cs->bf P w ad β T x cs
 | .aN,x,cs,h,hc=>by
  simp only[fP]at h;rcases h with rfl|h
  ·simpa only[bf]using hc
  ·cases x<;>simp only at h<;>try exact h.elim
   simp only[aP]at hc;simp only[bf];exact⟨_,hc,Oh h⟩
 | .st u fs,x,cs,h,hc=>by
  simp only[fP]at h;rcases h with rfl|h
  ·simpa only[bf]using hc
  ·cases x<;>simp only at h<;>try exact h.elim
   obtain⟨rfl,h⟩:=h;simp only[aP]at hc;obtain⟨l,a,d,e,f⟩:=hc;simp only[bf];exact⟨l,a,d,kU.cells l fs _ a h e,f⟩
 | .undef,x,cs,h,hc| .bool _,x,cs,h,hc| .int _ _,x,cs,h,hc| .str _,x,cs,h,hc| .dC,x,cs,h,hc| .ct _,x,cs,h,hc| .bL _ _,x,cs,h,hc| .seq _,x,cs,h,hc| .fw,x,cs,h,hc| .eJ _,x,cs,h,hc| .func _ _ _,x,cs,h,hc| .gG,x,cs,h,hc| .fS,x,cs,h,hc| .aE _,x,cs,h,hc=>by
  simp only[fP]at h;subst h;simpa only[bf]using hc
theorem kU.cells:∀(l:List Nat)(fs:List PV)(b:List AV)(a:List (List c9)),kU T fs b->aY P w ad l fs a->bJ P w ad β T l b a
 |l,[],b,a,h,hc=>by
  simp only[kU]at h;subst h;cases l<;>simp_all [bJ,aY]
 |l,v::vs,b,a,h,hc=>by
  cases b with
  |nil=>simp[kU]at h
  |cons g b=>
   simp only[kU]at h;cases l with
   |nil=>simp[aY]at hc
   |cons n l=>
    simp only[aY]at hc;obtain⟨c,cs,d,e,f,i⟩:=hc;simp only[bJ];exact⟨c,cs,d,fP.cells v g c h.1 e,f,kU.cells l vs b cs h.2 i⟩
end
theorem fP.EV(v:PV)(x:AV)(y:c9)(h:fP T v x)(hc:aA P w ad v y):au P w ad β T x y:=by
 cases v
 case aN=>
  simp only[fP]at h;rcases h with rfl|h
  ·simpa only[au]using hc
  ·cases x<;>simp only at h<;>try exact h.elim
   simp only[aA]at hc;subst hc;simp only[au];exact Oh h
 case st u fs=>
  simp only[fP]at h;rcases h with rfl|h
  ·simpa only[au]using hc
  ·cases x<;>simp only at h<;>try exact h.elim
   obtain⟨rfl,h⟩:=h;simp only[aA]at hc;obtain⟨l,a,b,c,d⟩:=hc;simp only[au];exact⟨l,a,b,kU.cells l fs _ a h c,d⟩
 all_goals simp only[fP]at h;subst h;simpa only[au]using hc
mutual
theorem Gh.cells:∀(v x:AV)(cs:List c9),Gh T v x->bf P w ad β T v cs->bf P w ad β T x cs
 | .p v,x,cs,h,hc=>by simp only[Gh]at h;simp only[bf]at hc;exact fP.cells v x cs h hc
 | .st u fs,x,cs,h,hc=>by
  simp only[Gh]at h;cases x<;>simp only at h<;>try exact h.elim
  obtain⟨rfl,h⟩:=h;simp only[bf]at hc⊢;obtain⟨l,a,d,e,f⟩:=hc;exact⟨l,a,d,mi.cells l fs _ a h e,f⟩
 | .ptr _ _,x,cs,h,hc| .bV _ _ _ _ _,x,cs,h,hc| .sl _ _ _ _ _,x,cs,h,hc| .map _,x,cs,h,hc| .func _ _ _,x,cs,h,hc| .aE _,x,cs,h,hc=>by simp only[Gh]at h;subst h;exact hc
theorem mi.cells:∀(l:List Nat)(fs b:List AV)(a:List (List c9)),mi T fs b->bJ P w ad β T l fs a->bJ P w ad β T l b a
 |l,[],b,a,h,hc=>by simp only[mi]at h;subst h;exact hc
 |l,v::vs,b,a,h,hc=>by
  cases b with
  |nil=>simp[mi]at h
  |cons g b=>
   simp only[mi]at h;cases l with
   |nil=>simp[bJ]at hc
   |cons n l=>
    simp only[bJ]at hc⊢;obtain⟨c,cs,d,e,f,i⟩:=hc;exact⟨c,cs,d,Gh.cells v g c h.1 e,f,mi.cells l vs b cs h.2 i⟩
end
theorem Gh.EV(v x:AV)(y:c9)(h:Gh T v x)(hc:au P w ad β T v y):au P w ad β T x y:=by
 cases v
 case p v=>simp only[Gh]at h;simp only[au]at hc;exact fP.EV v x y h hc
 case st u fs=>
  simp only[Gh]at h;cases x<;>simp only at h<;>try exact h.elim
  obtain⟨rfl,h⟩:=h;simp only[au]at hc⊢;obtain⟨l,a,b,c,d⟩:=hc;exact⟨l,a,b,mi.cells l fs _ a h c,d⟩
 all_goals simp only[Gh]at h;subst h;exact hc
theorem fP.aL{v:PV}{x:AV}(h:fP T v x):aa x=aj.aL v:=by
 cases v
 case aN=>
  simp only[fP]at h;rcases h with rfl|h
  ·rfl
  ·cases x<;>simp only at h<;>first|exact h.elim|rfl
 case st u fs=>
  simp only[fP]at h;rcases h with rfl|h
  ·rfl
  ·cases x<;>simp only at h<;>try exact h.elim
   simp[aa,aj.aL,h.1]
 all_goals simp only[fP]at h;subst h;rfl
theorem Gh.aL{v x:AV}(h:Gh T v x):aa x=aa v:=by
 cases v
 case p v=>simp only[Gh]at h;exact h.aL
 case st u fs=>
  simp only[Gh]at h;cases x<;>simp only at h<;>try exact h.elim
  simp[aa,h.1]
 all_goals simp only[Gh]at h;subst h;rfl
end ZH
theorem dE.fe{s s':St}{β:Bd}{ah ad:Nat->Prop}{w:db}(hf:dE N s s'):dJ N ah ad w β s.heap ah ad w β s'.heap:=by
 rcases hf with rfl|hf
 ·exact dJ.refl _ _ _ _ _ _
 ·exact⟨fun _ h=>h,fun _ h=>h,fun _ h=>.inl h,Ext.refl _ _ _,hf.1.step.n,fun x a⟨o,e,d⟩=>⟨o,by rw[hf.2 _ a];exact e,d⟩,fun b a⟨L,c⟩=>⟨L,by rw[hf.2 _ a];exact c⟩⟩
theorem pF.rel{s s':St}{ah ad:Nat->Prop}{β:Bd}{t:Array c9}{w:db}(hf:pF s s')(h:cK P n ah ad β s t w):cK P n ah ad β s' t w:=by
 have aB:b9 β s.heap β s'.heap:=hf.step;refine⟨⟨?_,?_,hf.hrefs,h.heap.bQ,h.heap.dX,h.heap.ig⟩,fun x=>?_,hf.gD,h.size⟩
 ·intro b o F;rcases hf.heap b o F with rfl|i|⟨_,k,z,rfl,hk⟩|⟨v,v',i,rfl,r⟩
  ·trivial
  rotate_left
  ·exact .inl ⟨hk,rfl⟩
  ·have d:=h.heap.cB b _ i;have g:=h.heap.refs b _ i;obtain⟨cs,T,a,c,e,l,D⟩:=d;exact⟨cs,T,a,Gh.cells _ _ _ r (bf.mono (fun _ x=>x) (fun _ _=>rfl) aB _ _ g c),e,(fun h=>by cases h),by rw[r.aL];exact D⟩
  ·have d:=h.heap.cB b o i;have g:=h.heap.refs b o i;cases o with
   |hole=>trivial
   |dead=>trivial
   |box fz t=>
    obtain⟨cs,T,a,c,e⟩:=d;exact⟨cs,T,a,bf.mono (fun _ x=>x) (fun _ _=>rfl) aB _ _ g c,e⟩
   |arr k ar ai es=>
    rcases d with d|⟨cs,T,B,rest,a,c,e⟩
    ·exact .inl d
    ·exact .inr ⟨cs,T,B,rest,a,bJ.mono (fun _ x=>x) (fun _ _=>rfl) aB _ _ _ g c,e⟩
   |map fz es=>exact d
   |di ks vs=>
    obtain⟨C,clock,a,c,e,l⟩:=d;exact⟨C,clock,a,c,br.mono (fun _ x=>x) (fun _ _=>rfl) aB _ _ g e,l⟩
   |dt s pos=>exact d
   |loop L=>
    obtain⟨tmps,defers,fn,a,c,e,l⟩:=d;exact⟨tmps,defers,fn,a,c,fun x=>au.mono (fun _ x=>x) (fun _ _=>rfl) aB _ _ (g x) (e x),l⟩
 ·intro x y I J a c p q E f;have A:∀{z:Nat}{o:Obj},s'.heap[z]?=some o->o.live->∃o',s.heap[z]?=some o'/\o'.live:=by
   intro z o j m;rcases hf.heap z o j with rfl|j|⟨_,k,_,rfl,hk⟩|⟨v,v',j,_,_⟩
   ·exact m.elim
   ·exact⟨o,j,m⟩
   ·exact(m ⟨hk,rfl⟩).elim
   ·exact⟨_,j,trivial⟩
  obtain⟨G,a,p⟩:=A a p;obtain⟨H,c,q⟩:=A c q;exact h.heap.inj x y G H a c p q E f
 ·have u:=au.mono (fun _ x=>x) (fun _ _=>rfl) aB _ _ (h.gD x) (h.env x);rcases hf.env x with f|f|f
  ·rw[f];exact u
  ·rw[f];simp[au,aA]
  ·exact Gh.EV _ _ _ f u
theorem dE.rel{s s':St}{ah ad:Nat->Prop}{β:Bd}{t:Array c9}{w:db}(hf:dE N s s')(h:cK P n ah ad β s t w):cK P n ah ad β s' t w:=by
 rcases hf with rfl|hf
 ·exact h
 ·exact hf.1.rel h
def mQ(P:dl)(fr:dz)(k:List Item)(cs:List dz)(m:ec)(t:Array c9)(ds:List dp)(w:db):bp->Prop
 | .normal=>eb P m (lone (bw fr t ds k) cs w)
 | .exit id=>∃a,exitTo id a=exitTo id k/\eb P m (lone (bw fr t ds (.code (.exit id)::a)) cs w)
 | .ret=>∃a,eb P m (lone (bw fr t ds (.code .ret::a)) cs w)
theorem mQ.of_steps{m f:ec}{t:Array c9}{ds:List dp}{w:db}{e:bp}(h:eb P m f)(c:mQ P fr k cs f t ds w e):mQ P fr k cs m t ds w e:=by
 cases e with
 |normal=>exact h.trans c
 |exit id=>obtain⟨d,a,b⟩:=c;exact⟨d,a,h.trans b⟩
 |ret=>obtain⟨d,b⟩:=c;exact⟨d,h.trans b⟩
def mark(r:Nat):dp:={target:=.collected r,args:=#[]}
def Marks(fr:dz)(ah:Nat->Prop)(w:db)(jT aD:Nat->Prop)(w':db)(b c:List dp):Prop:=
 ∃a:List Nat,c=a.map mark++b/\a.Nodup/\(∀r∈a,w.heap.size<=r/\jT r/\¬aD r/\w'.heap[r]?=some (.deferred (some [])))/\(∀k,jT k->ah k\/k∈a)/\(fr.roundOf.isSome=true->a=[])
theorem Marks.refl(fr:dz)(ah aD:Nat->Prop)(w w':db)(ds:List dp):Marks fr ah w ah aD w' ds ds:=⟨[],rfl,List.nodup_nil,by simp,fun _ h=>.inl h,fun _=>rfl⟩
theorem Marks.trans{fr:dz}{N:Nat}{ah ad d e g f:Nat->Prop}{w w1 l:db}{β p B:Bd}{H H1 q:Heap}{ds m n:List dp}(h:Marks fr ah w d e w1 ds m)(i:dJ N ah ad w β H d e w1 p H1)
 (s:Marks fr d w1 g f l m n)(j:dJ N d e w1 p H1 g f l B q):Marks fr ah w g f l ds n:=by
 obtain⟨rs,rfl,t,o,u,v⟩:=h;obtain⟨A,rfl,g2,g3,g4,g5⟩:=s;refine⟨A++rs,by simp,?_,?_,?_,fun hx=>by simp[v hx,g5 hx]⟩
 ·rw[List.nodup_append];refine⟨g2,t,fun a i b y x=>?_⟩;subst x;have C:=(g3 a i).1;have D:=(bv.1 (o a y).2.2.2).1;omega
 ·intro r c;rcases hD.1 c with c|c
  ·obtain⟨k1,k2⟩:=g3 r c;exact⟨Nat.le_trans i.ext.size k1,k2⟩
  ·obtain⟨k1,k2,k3,k4⟩:=o r c;exact⟨k1,j.dX _ k2,fun hx=>(j.fresh _ hx).elim k3 (fun z=>z k2),(j.ext.same _ (.inl k2)).trans k4⟩
 ·intro k hk;rcases g4 k hk with hk|hk
  ·rcases u k hk with hk|hk
   ·exact .inl hk
   ·exact .inr (by simp[hk])
  ·exact .inr (by simp[hk])
def q7(N:Nat)(fr:dz)(β:Bd)(H:Heap):Prop:=∀l,fr.roundOf=some l->∃b,b<N/\gN H b/\β.al b=l
theorem q7.fe{fr:dz}{β aH:Bd}{H H':Heap}{ah ad jT aD:Nat->Prop}{w w':db}(h:q7 N fr β H)(e:dJ N ah ad w β H jT aD w' aH H'):q7 N fr aH H':=by
 intro l i;obtain⟨b,a,c,f⟩:=h l i;have d:=e.loop b a c;obtain⟨L,g⟩:=c;exact⟨b,a,d,((e.step.loop b a ⟨_,g,trivial⟩ d).2).trans f⟩
def qw(P:dl)(n N:Nat)(fr:dz)(k:List Item)(cs:List dz)(ah ad:Nat->Prop)(w:db)(β:Bd)(H:Heap)(m:ec)(c:List dp)(Q:bp->St->Prop):Prop:=
 ∃e s' jT aD aH b w' a,Q e s'/\mQ P fr k cs m b a w' e/\cK P n jT aD aH s' b w'/\dJ N ah ad w β H jT aD w' aH s'.heap/\Marks fr ah w jT aD w' c a
theorem qw.of{k:List Item}{ah ad:Nat->Prop}{w:db}{β:Bd}{H:Heap}{m:ec}{ds:List dp}{Q:bp->St->Prop}{e:bp}{s':St}{aD:Nat->Prop}{aH:Bd}{a:Array c9}{w':db}(hq:Q e s')(c:mQ P fr k cs m a ds w' e)
 (d:cK P n ah aD aH s' a w')(b:dJ N ah ad w β H ah aD w' aH s'.heap):qw P n N fr k cs ah ad w β H m ds Q:=⟨e,s',ah,aD,aH,a,w',ds,hq,c,d,b,Marks.refl _ _ _ _ _ _⟩
theorem qw.next{k:List Item}{ah ad b a:Nat->Prop}{w c:db}{β i:Bd}{H H1:Heap}{m g:ec}{d e:List dp}{Q:bp->St->Prop}(f:dJ N ah ad w β H b a c i H1)(p:Marks fr ah w b a c d e)(aB:eb P m g)
 (h:qw P n N fr k cs b a c i H1 g e Q):qw P n N fr k cs ah ad w β H m d Q:=by
 obtain⟨e2,s2,l,j,r,t2,q,o,g1,g2,g3,g4,g5⟩:=h;exact⟨e2,s2,l,j,r,t2,q,o,g1,.of_steps aB g2,g3,f.trans g4,p.trans f g5 g4⟩
def codeOk(fit:Nat->Array Oper->Bool)(n:Nat):Code->Bool
 | .region _ ops draw=>ops.toList.all (iT n)&&(!draw||fit n ops)
 | .seq a b=>codeOk fit n a&&codeOk fit n b
 | .cond _ a b=>codeOk fit n a&&codeOk fit n b
 | .block _ b| .scope b| .loop b=>codeOk fit n b
 | .rangeFunc _ _ a b=>codeOk fit n a&&codeOk fit n b
 |_=>true
def sL(P:dl)(ag:ed->Bool)(fit:Nat->Array Oper->Bool):Prop:=
 ∀(n N:Nat)(a:Array Oper)(fr:dz)(k:List Item)(cs:List dz)(b:List dp)(c:Nat)(K:St->Prop)(s:St)(ah ad:Nat->Prop)(β:Bd)(t:Array c9)(w:db),
  fit n a=true->(∀o∈a.toList,iT n o=true)->ga P ag a a.toList 0 [] K s->cK P n ah ad β s t w->
  kl P n N fr k cs a ah ad w β s.heap (lone (bw fr t b (.inRegion a (Region.schedule (P.follows .mixedOrders) a c)::k)) cs w) [] b K
theorem cK.draw{s:St}{ah ad:Nat->Prop}{β:Bd}{t:Array c9}{w w':db}(a:w'.heap=w.heap)(h:cK P n ah ad β s t w):cK P n ah ad β s t w':=
 ⟨h.heap.vg a,fun x=>au.mono (fun _ x=>x) (fun _ _=>by rw[a]) (b9.refl _ _) _ _ (h.gD x) (h.env x),h.gD,h.size⟩
section rf
variable{w w':db}{ad ah:Nat->Prop}{β:Bd}{H:Heap}
theorem bP.Kk(h:bP P w ad β H ah){x:Nat}(hx:x<w.heap.size)(v:∀(b:Nat)(o:Obj),H[b]?=some o->o.live->β.al b≠x):bP P w ad β H (fun k=>ah k\/k=x):=by
 refine⟨fun b o m=>?_,h.inj,h.refs,h.bQ,fun k hk=>hk.elim (h.dX k) (fun e=>e▸hx),h.ig⟩;have held:∀fz,o.live->cw ad β ah fz b->cw ad β (fun k=>ah k\/k=x) fz b:=by
  intro fz j i;unfold cw at i⊢;cases fz with
  |true=>exact i
  |false=>exact⟨i.1,fun y=>y.elim i.2 (v b o m j)⟩
 have f:=h.cB b o m;cases o with
 |hole=>trivial
 |dead=>trivial
 |box fz t=>obtain⟨cs,T,a,c,d,g⟩:=f;exact⟨cs,T,a,c,held _ trivial d,g⟩
 |arr k ar ai es=>
  rcases f with f|⟨cs,T,n,rest,a,c,d,g,p,q,r,u⟩
  ·exact .inl f
  ·by_cases j:cX k es
   ·exact .inl j
   ·exact .inr ⟨cs,T,n,rest,a,c,d,g,p,q,held _ j r,u⟩
 |map fz es=>obtain⟨l,clock,a,c,d⟩:=f;exact⟨l,clock,a,c,held _ trivial d⟩
 |di ks vs=>obtain⟨l,clock,a,c,d,g⟩:=f;exact⟨l,clock,a,c,d,held _ trivial g⟩
 |dt s pos=>obtain⟨bs,a,c,d⟩:=f;exact⟨bs,a,c,held _ trivial d⟩
 |loop L=>obtain⟨tmps,defers,fn,a,c,d,g⟩:=f;exact⟨tmps,defers,fn,a,c,d,held _ trivial g⟩
theorem bP.shut(h:bP P w ad β H ah){Prot0:Nat->Prop}(q:∀k,Prot0 k->ah k){R:Nat->Prop}(m:∀x,R x->ah x/\¬ad x)(r:w'.heap.size=w.heap.size)(hs:∀k,¬R k->w'.heap[k]?=w.heap[k]?):bP P w' ad β H Prot0:=by
 have same:∀k,ad k->w'.heap[k]?=w.heap[k]?:=fun k hk=>hs k (fun i=>(m k i).2 hk);refine⟨fun b o p=>?_,h.inj,h.refs,fun k hk=>r▸h.bQ k hk,fun k hk=>r▸h.dX k (q k hk),h.ig.mono (fun _ x=>x) same⟩;have held:∀fz,cw ad β ah fz b->cw ad β Prot0 fz b:=by
  intro fz f;unfold cw at f⊢;cases fz with
  |true=>exact f
  |false=>exact⟨f.1,fun A=>f.2 (q _ A)⟩
 have al:∀fz,cw ad β ah fz b->w'.heap[β.al b]?=w.heap[β.al b]?:=by
  intro fz f;refine hs _ (fun i=>?_);unfold cw at f;cases fz with
  |true=>exact(m _ i).2 f
  |false=>exact f.2 (m _ i).1
 have g:=h.cB b o p;have j:=h.refs b o p;cases o with
 |hole=>trivial
 |dead=>trivial
 |box fz t=>obtain⟨cs,T,c,d,a,e⟩:=g;exact⟨cs,T,(al _ a).trans c,bf.mono (fun _ x=>x) same (b9.refl _ _) _ _ j d,held _ a,e⟩
 |arr k ar ai es=>
  rcases g with g|⟨cs,T,u,rest,c,d,a,e,v,y,n,z⟩
  ·exact .inl g
  ·exact .inr ⟨cs,T,u,rest,(al _ n).trans c,bJ.mono (fun _ x=>x) same (b9.refl _ _) _ _ _ j d,a,e,v,y,held _ n,z⟩
 |map fz es=>obtain⟨l,clock,c,d,a⟩:=g;exact⟨l,clock,(al _ a).trans c,cz.mono (fun _ x=>x) same _ _ d,held _ a⟩
 |di ks vs=>obtain⟨l,clock,c,d,a,e⟩:=g;exact⟨l,clock,(al _ e).trans c,bn.mono (fun _ x=>x) same _ _ d,br.mono (fun _ x=>x) same (b9.refl _ _) _ _ j a,held _ e⟩
 |dt s pos=>obtain⟨bs,c,d,a⟩:=g;exact⟨bs,(al _ a).trans c,d,held _ a⟩
 |loop L=>obtain⟨tmps,defers,fn,c,d,a,e⟩:=g;exact⟨tmps,defers,fn,(al _ e).trans c,d,fun x=>au.mono (fun _ x=>x) same (b9.refl _ _) _ _ (j x) (a x),held _ e⟩
theorem CR(H:Heap)(o:Obj):(H++hr 1 Obj.hole).set H.length o=H++[o]:=by
 rw[List.set_append_right _ _ (h5 _)];simp
theorem Ln(a:bP P w ad β H ah){L:fg}{tmps:Array c9}{defers fn:Nat}(h:tmps.size=L.n)(l:∀x,au P w ad β H (aM L.env x) (tmps.getD x undef))(c:∀x,aC (aG H) (aM L.env x)):
 bR P ah ad w β H ad (w.alloc (.loop {state:=L.st,pending:=L.pending,fn,tmps,params:=L.params.toArray,assign:=L.assign,body:=L.body,defers})) (β.at H.length w.heap.size 0) (H++[.loop L]):=by
 have d:bR P ah ad w β H ad w β (H++hr 1 .hole):=⟨fun _ x=>x,fun _ x=>.inl x,Ext.refl _ _ _,oJ _ _ _,a.mS _,mz _ _,fun b⟨L,e⟩=>⟨L,by rw[jZ,if_pos (hp.1 e).1];exact e⟩⟩
 have f:(H++hr 1 Obj.hole)[H.length]?=some .hole:=by rw[jZ];simp
 have aB:=(oJ β H 1)
 have j:=yc (β:=β) f (.loop L) w.heap.size 0;have hrefs:∀x,aC (aG ((H++hr 1 Obj.hole).set H.length (.loop L))) (aM L.env x):=by
  intro x;rw[CR];exact aC.mono (fun y m=>J1 m) _ (c x)
 have g:=sO (cap:=0) d.rel f (ob:=.loop {state:=L.st,pending:=L.pending,fn,tmps,params:=L.params.toArray,assign:=L.assign,body:=L.body,defers}) (o':=.loop L)
  ⟨tmps,defers,fn,by simp[Bd.at],h,fun x=>au.mono (fun _ x=>x) (fun k hk=>uX w _ (a.bQ k hk)) j _ _ (aC.mono (mz _ _) _ (c x)) (au.mono (fun _ x=>x) (fun _ _=>rfl) aB _ _ (c x) (l x)),?_⟩ hrefs
 ·rw[CR]at g;exact d.trans g
 ·unfold cw;simp only[cx,if_false,Bd.at,if_true];exact⟨fun hi=>by have:=a.bQ _ hi;omega,fun i=>by have:=a.dX _ i;omega⟩
theorem Ck(g:bP P w ad β H ah){b:Nat}{L:fg}(a:H[b]?=some (.loop L))(st:LoopState)(d:Option Code):
 ∃rec:Loop,w.heap[β.al b]?=some (.loop rec)/\rec.state=L.st/\rec.pending=L.pending/\rec.params=L.params.toArray/\rec.assign=L.assign/\rec.body=L.body/\rec.tmps.size=L.n/\(∀x,au P w ad β H (aM L.env x) (rec.tmps.getD x undef))/\
  bR P ah ad w β H ad (w.putObj (β.al b) (.loop {rec with state:=st,pending:=d})) β (H.set b (.loop {L with st:=st,pending:=d})):=by
 obtain⟨tmps,defers,fn,p,q,r,c⟩:=g.cB b _ a;refine⟨_,p,rfl,rfl,rfl,rfl,rfl,q,r,?_⟩;have v:=(bv.1 p).1;have s:=(hp.1 a).1;unfold cw at c;simp only[cx,if_false]at c;have aB:b9 β H β (H.set b (.loop {L with st:=st,pending:=d})):=by
  have j:∀(x:Nat)(o:Obj),(H.set b (Obj.loop {L with st:=st,pending:=d}))[x]?=some o->(∀i,o≠Obj.loop i)->H[x]?=some o:=by
   intro x o m y
   by_cases hx:b=x
   ·subst hx;rw[ht s]at m;cases m;exact(y _ rfl).elim
   ·rwa [hF hx]at m
  refine⟨?_,?_,?_,?_,?_⟩
  ·rintro x _ ⟨f,t,h⟩;exact⟨⟨f,t,j _ _ h (by simp)⟩,rfl⟩
  ·rintro x _ ⟨f,t,h⟩;exact⟨⟨f,t,j _ _ h (by simp)⟩,rfl⟩
  ·rintro x _ ⟨z,h,l⟩;exact⟨⟨z,j _ _ h (fun i e=>by rw[e]at l;exact l.elim),l⟩,rfl⟩
  ·intro x ar ai k u _ h;exact⟨k,u,j _ _ h (by simp),h5 _,Iff.rfl,fun _=>⟨rfl,rfl⟩⟩
  ·rintro x _ ⟨i,h⟩;refine⟨?_,rfl⟩
   by_cases hx:b=x
   ·subst hx;exact⟨L,a⟩
   ·rw[hF hx]at h;exact⟨i,h⟩
 have ak:∀x,aG H x->aG (H.set b (Obj.loop {L with st:=st,pending:=d})) x:=lT a (fun _ _=>trivial);have same:∀k,ad k->(w.putObj (β.al b) (.loop {state:=st,pending:=d,fn,tmps,params:=L.params.toArray,assign:=L.assign,body:=L.body,defers})).heap[k]?=w.heap[k]?:=fun k hk=>hn (fun e=>c.1 (e▸hk));refine bR.set g s (fun _ _=>⟨rfl,rfl⟩) (fun _ x=>x) (fun _ x=>.inl x) (fun k hk=>by simpa using g.bQ k hk) (by simp)
  (fun k hk _=>hn (hk.resolve_right (fun h=>h trivial))) (fun _=>.inr ⟨rfl,⟨_,a,trivial⟩,.inr c.1,c.2⟩) aB
  ⟨tmps,defers,fn,World.putObj_heap_same v,q,fun x=>au.mono (fun _ x=>x) same aB _ _ (g.refs b _ a x) (r x),?_⟩ (fun x=>aC.mono ak _ (g.refs b _ a x)) (fun _ _ _ _=>trivial) (fun _ _=>⟨_,rfl⟩)
 unfold cw;simpa using c
end rf
theorem UH{s:St}{ah ad:Nat->Prop}{β:Bd}{t:Array c9}{w:db}(c:cK P n ah ad β s t w)(F:q7 N fr β s.heap)(e:Array Tmp)(a b:Code)(p:List dp){f:Env}(g:∀x,aM f x=aM s.env x):
 ∃l mk i m j,(Instr.enterLoop fr.fn t e a b fr.roundOf).run P w=.ok (l,mk) i/\bP P i ad j (s.heap++[.loop ⟨.ready,none,n,e.toList,a,b,f⟩]) m/\j.al s.heap.length=l/\
  dJ N ah ad w β s.heap m ad i j (s.heap++[.loop ⟨.ready,none,n,e.toList,a,b,f⟩])/\Marks fr ah w m ad i p (mk++p)/\
  b9 β s.heap j (s.heap++[.loop ⟨.ready,none,n,e.toList,a,b,f⟩]):=by
 cases v:fr.roundOf with
 |none=>
  have q:bR P ah ad w β s.heap ad (w.alloc (.deferred (some []))) β s.heap:=c.heap.later (fun _ x=>x) (fun _ x=>.inl x) (fun k hk=>by have:=c.heap.bQ k hk;rw[ho];omega) (by rw[ho];omega) (fun k hk=>uX w _ hk);have D:=q.rel.Kk (x:=w.heap.size) (by rw[ho];omega) (fun b o H G g=>by have:=c.heap.mE H G;omega);have d:=Ln (L:=⟨.ready,none,n,e.toList,a,b,f⟩) (tmps:=t) (defers:=w.heap.size) (fn:=fr.fn) D c.size (fun x=>by rw[g];exact au.mono (fun _ x=>x) (fun k hk=>uX w _ (c.heap.bQ k hk)) (b9.refl _ _) _ _ (c.gD x) (c.env x)) (fun x=>by rw[g];exact c.gD x);have C:dJ N ah ad w β s.heap (fun k=>ah k\/k=w.heap.size) ad (w.alloc (.deferred (some []))) β s.heap:=⟨fun _ h=>.inl h,fun _ h=>h,fun _ h=>.inl h,q.ext,(b9.refl _ _).n,fun _ _ h=>h,fun _ _ h=>h⟩
  refine⟨_,_,_,_,_,run_enterLoop_outer fr.fn t e a b,d.rel,?_,C.trans d.fe,?_,d.step⟩
  ·simp[Bd.at,ho]
  ·refine⟨[w.heap.size],rfl,by simp,?_,fun k hk=>hk.imp id (fun h=>by simp[h]),by simp[v]⟩;intro r u;simp only[hU]at u;subst u;refine⟨h5 _,.inr rfl,fun hi=>by have:=c.heap.bQ _ hi;omega,?_⟩;exact(d.ext.same _ (.inl (.inr rfl))).trans (World.alloc_heap_new w _)
 |some I=>
  obtain⟨y,M,A,B⟩:=F I v;obtain⟨J,E⟩:=A;obtain⟨O,z,K,g1,_⟩:=c.heap.cB y _ E;rw[B]at g1;have d:=Ln (L:=⟨.ready,none,n,e.toList,a,b,f⟩) (tmps:=t) (defers:=z) (fn:=fr.fn) c.heap c.size (fun x=>by rw[g];exact c.env x) (fun x=>by rw[g];exact c.gD x);exact⟨_,_,_,_,_,run_enterLoop_inner g1 fr.fn t e a b,d.rel,by simp[Bd.at],d.fe,Marks.refl _ _ _ _ _ _,d.step⟩
theorem mv(M:lJ P ag){fit:Nat->Array Oper->Bool}(K:sL P ag fit):∀(c:Code)(k:List Item){Q:bp->St->Prop}{s:St}{ah ad:Nat->Prop}{β:Bd}{t:Array c9}{w:db}{ds:List dp},
 codeOk fit n c=true->b7 P ag (n,N) c Q s->cK P n ah ad β s t w->q7 N fr β s.heap->qw P n N fr k cs ah ad w β s.heap (lone (bw fr t ds (.code c::k)) cs w) ds Q
 | .skip,k,Q,s,ah,ad,β,t,w,ds,_,h,i,_=>.of h (.one aFV:mQ P fr k cs _ t ds w .normal) i (dJ.refl _ _ _ _ _ _)
 | .label l,k,Q,s,ah,ad,β,t,w,ds,_,h,i,_=>.of h (.one V6:mQ P fr k cs _ t ds w .normal) i (dJ.refl _ _ _ _ _ _)
 | .exit id,k,Q,s,ah,ad,β,t,w,ds,_,h,i,_=>.of h (⟨k,rfl,hh _ _⟩:mQ P fr k cs _ t ds w (.exit id)) i (dJ.refl _ _ _ _ _ _)
 | .ret,k,Q,s,ah,ad,β,t,w,ds,_,h,i,_=>.of h (⟨k,hh _ _⟩:mQ P fr k cs _ t ds w .ret) i (dJ.refl _ _ _ _ _ _)
 | .region id ops draw,k,Q,s,ah,ad,β,t,w,ds,z,h,i,_=>by
  simp only[codeOk,cy,hZ]at z;simp only[b7]at h;cases draw with
  |false=>
   simp only[cx,if_false]at h;obtain⟨s',aD,aH,az,w',j,r,q,d⟩:=Jt (fr:=fr) (k:=k) (cs:=cs) (ds:=ds) (N:=N) M z.1 ops.toList 0 (by simp) h i;refine .of (e:=.normal) j ?_ q d;have e:List.range ops.size=hH 0 ops.toList.length:=by rw[List.range_eq_range'];simp
   exact(he R4).trans ((by rw[e];exact r:eb P _ _).trans (.one HN))
  |true=>
   simp only[if_true]at h;have a3:cK P n ah ad β s t {w with drawn:=w.drawn+1}:=cK.draw (w:=w) (w':={w with drawn:=w.drawn+1}) rfl i;obtain⟨s',aD,aH,az,w',j,r,q,d⟩:=K n N ops fr k cs ds (w.tape w.drawn (.order fr.fn id)) _ s ah ad β t _ (by simpa using z.2) z.1 h a3;exact .of (e:=.normal) j ((he aFP).trans (r.trans (.one HN)):mQ P fr k cs _ az ds w' .normal) q ⟨d.dX,d.bQ,d.fresh,⟨d.ext.size,d.ext.same,d.ext.io⟩,d.step,d.eQ,d.loop⟩
 | .seq a b,k,Q,s,ah,ad,β,t,w,ds,z,h,i,D=>by
  simp only[codeOk,cy]at z;simp only[b7]at h;obtain⟨e,s1,p,C,A,t1,o,E,j,r,q,d,B⟩:=mv M K a (.code b::k) z.1 h i D;cases e with
  |normal=>exact .next d B ((he C7).trans r) (mv M K b k z.2 j q (D.fe d))
  |exit id=>
   obtain⟨F,O,a2⟩:=r;exact⟨.exit id,s1,p,C,A,t1,o,E,j,⟨F,O.trans (by simp[exitTo]),(he C7).trans a2⟩,q,d,B⟩
  |ret=>
   obtain⟨F,a2⟩:=r;exact⟨.ret,s1,p,C,A,t1,o,E,j,⟨F,(he C7).trans a2⟩,q,d,B⟩
 | .cond c a b,k,Q,s,ah,ad,β,t,w,ds,z,h,i,D=>by
  simp only[codeOk,cy]at z;simp only[b7]at h
  split at h
  ·rename_i aE aL;have ao:=(nO i c).1;rw[aL]at ao;simp only[au,aA]at ao;have aB:=aFO (P:=P) (fr:=fr) (ds:=ds) (k:=k) (cs:=cs) (w:=w) (x:=a) (y:=b) ao;cases aE with
   |true=>exact .next (dJ.refl N ah ad w β s.heap) (Marks.refl _ _ _ _ _ _) (.one (by simpa using aB)) (mv M K a k z.1 (by simpa using h) i D)
   |false=>exact .next (dJ.refl N ah ad w β s.heap) (Marks.refl _ _ _ _ _ _) (.one (by simpa using aB)) (mv M K b k z.2 (by simpa using h) i D)
  ·exact h.elim
 | .block id b,k,Q,s,ah,ad,β,t,w,ds,z,h,i,D=>by
  simp only[codeOk]at z;simp only[b7]at h;obtain⟨e,s1,p,C,A,t1,o,E,j,r,q,d,B⟩:=mv M K b (.inBlock id::k) z h i D;cases e with
  |normal=>exact⟨.normal,s1,p,C,A,t1,o,E,j,(he yj).trans (r.trans (.one UP)),q,d,B⟩
  |exit ac=>
   obtain⟨F,O,a2⟩:=r;dsimp only at j
   split at j
   ·rename_i hid;subst hid;refine⟨.normal,s1,p,C,A,t1,o,E,j,(he yj).trans (a2.trans (.one (aFR ?_))),q,d,B⟩;rw[O];simp[exitTo]
   ·rename_i hid;exact⟨.exit ac,s1,p,C,A,t1,o,E,j,⟨F,O.trans (by simp[exitTo,Ne.symm hid]),(he yj).trans a2⟩,q,d,B⟩
  |ret=>
   obtain⟨F,a2⟩:=r;exact⟨.ret,s1,p,C,A,t1,o,E,j,⟨F,(he yj).trans a2⟩,q,d,B⟩
 | .scope b,k,Q,s,ah,ad,β,t,w,ds,z,h,i,D=>by
  simp only[codeOk]at z;simp only[b7]at h;obtain⟨e,s1,p,C,A,t1,o,E,j,r,q,d,B⟩:=mv M K b (.inScope b::k) z h i D;cases e with
  |normal=>exact⟨.normal,s1,p,C,A,t1,o,E,j,(he B5).trans (r.trans (.one UO)),q,d,B⟩
  |exit ac=>
   obtain⟨F,O,a2⟩:=r;exact⟨.exit ac,s1,p,C,A,t1,o,E,j,⟨F,O.trans (by simp[exitTo]),(he B5).trans a2⟩,q,d,B⟩
  |ret=>
   obtain⟨F,a2⟩:=r;exact⟨.ret,s1,p,C,A,t1,o,E,j,⟨F,(he B5).trans a2⟩,q,d,B⟩
 | .loop b,k,Q,s,ah,ad,β,t,w,ds,z,h,i,D=>by
  simp only[codeOk]at z;simp only[b7]at h;obtain⟨I,⟨m0,t0,hf,hI⟩,a5⟩:=h
  have loop:∀(m:Nat)(u:St)(ah ad:Nat->Prop)(β:Bd)(t:Array c9)(w:db)(ds:List dp),I m u->cK P n ah ad β u t w->q7 N fr β u.heap->
   qw P n N fr k cs ah ad w β u.heap (lone (bw fr t ds (.code b::.inLoop b::k)) cs w) ds Q:=by
   intro m
   induction m using Nat.strongRecOn with
   |_ m a8=>
    intro u ah ad β t w ds hI i D;obtain⟨e,s1,p,C,A,t1,o,E,j,r,q,d,B⟩:=mv M K b (.inLoop b::k) z (a5 m u hI) i D;cases e with
    |normal=>
     obtain⟨a9,u',a0,ar,aF⟩:=j;have ab:=ar.fe (β:=A) (ah:=p) (ad:=C) (w:=o);exact .next (d.trans ab) B (hg r (.one Vb)) (a8 a9 a0 u' p C A t1 o E aF (ar.rel q) ((D.fe d).fe ab))
    |exit ac=>
     obtain⟨F,O,a2⟩:=r;exact⟨.exit ac,s1,p,C,A,t1,o,E,j,⟨F,O.trans (by simp[exitTo]),a2⟩,q,d,B⟩
    |ret=>
     obtain⟨F,a2⟩:=r;exact⟨.ret,s1,p,C,A,t1,o,E,j,⟨F,a2⟩,q,d,B⟩
  have ab:=hf.fe (β:=β) (ah:=ah) (ad:=ad) (w:=w);exact .next ab (Marks.refl _ _ _ _ _ _) (.one aFS) (loop m0 t0 ah ad β t w ds hI (hf.rel i) (D.fe ab))
 | .rangeFunc f G a b,k,Q,s,ah,ad,β,t,w,ds,z,h,i,D=>by
  simp only[b7]at h;obtain⟨be,R,aV,h⟩:=h;have Y:=nO i f
  obtain⟨g,fi,ca,J,H,aX,aW,aO,aw,av,aa,v,aY,af⟩:∃g fi ca,∃J H:List c9,fA t f= .func (.func g) J.toArray H.toArray/\br P w ad β s.heap fi J/\br P w ad β s.heap ca H/\aR (aG s.heap) fi/\aR (aG s.heap) ca/\
   ∃aa v,c7 P g (s.heap++[.loop ⟨.ready,none,n,G.toList,a,b,R⟩]) (fi++[.map s.heap.length]++ca) aa v/\iQ s.heap.length s.env Q aa:=by
   unfold jF at h
   split at h
   ·rename_i g fi ca hf;rw[hf]at Y;simp only[au,aA]at Y;obtain⟨⟨J,H,j,r,q⟩,_⟩:=Y;exact⟨g,_,_,J,H,q,jq.2 j,jq.2 r,iZ _ _,iZ _ _,h⟩
   ·rename_i g fi ca hf;rw[hf]at Y;simp only[au,aC]at Y;obtain⟨⟨J,H,j,r,q⟩,d,B⟩:=Y;exact⟨g,fi,ca,J,H,q,j,r,d,B,h⟩
   ·exact h.elim
  obtain⟨l,mk,o,p,A,e1,e2,e3,e4,e5,ai⟩:=UH (fr:=fr) i D G a b ds aV;obtain⟨aT,aP⟩:=aY;have ak:∀x,aG s.heap x->aG (s.heap++[.loop ⟨.ready,none,n,G.toList,a,b,R⟩]) x:=fun x hx=>J1 hx;have an:∀k,ad k->o.heap[k]?=w.heap[k]?:=fun k hk=>e4.ext.same k (.inr hk);have a6:au P o ad A (s.heap++[.loop ⟨.ready,none,n,G.toList,a,b,R⟩]) (.map s.heap.length) (.func (.yield l) #[] #[]):=by
   simp only[au,bK,bO];refine⟨by simp[hj],fun W=>?_,fun _=>by rw[e3]⟩;obtain⟨bg,ap,W⟩:=W;simp at ap;subst ap;exact W.elim
  have a7:aC (aG (s.heap++[.loop ⟨.ready,none,n,G.toList,a,b,R⟩])) (.map s.heap.length):=by
   simp only[aC];exact⟨.loop ⟨.ready,none,n,G.toList,a,b,R⟩,by simp,trivial⟩
  have aK:=oL (oL (br.mono (fun _ x=>x) an ai _ _ aw aW) (b:=[.map s.heap.length]) (y:=[.func (.yield l) #[] #[]]) (by simp only[br];exact⟨_,_,rfl,a6,rfl⟩)) (br.mono (fun _ x=>x) an ai _ _ av aO);have aJ:=jB (jB (aR.mono ak _ aw) (b:=[.map s.heap.length]) (by simp only[aR];exact⟨a7,trivial⟩)) (aR.mono ak _ av);have aZ:(invoke (.fn (.func g) H.toArray) (J.toArray++#[.func (.yield l) #[] #[]])).run P o=.ok (.enter g (J++[(.func (.yield l) #[] #[]:c9)]++H).toArray) o:=by
   have:=aT (J++[(.func (.yield l) #[] #[]:c9)]++H).toArray o;simp only[invoke];rw[<-this];congr 2;simp
  have a4:(resolve (Act.eval ⟨t,ds⟩) (rangeCall f l) 0).run P o=.ok (⟨.fn (.func g) H.toArray,J.toArray++#[.func (.yield l) #[] #[]]⟩:dp) o:=by
   have al:(Act.eval ⟨t,ds⟩) f=fA t f:=by cases f<;>rfl
   have aQ:(rangeCall f l).args.map (Act.eval ⟨t,ds⟩)=#[.func (.yield l) #[] #[]]:=by simp[Act.eval]
   simp only[resolve,aQ];simp only[al,aX,Deferred.ofValue];rfl
  have aU:=stepR_rangeFunc (P:=P) (b:=fr) (a:=⟨t,ds⟩) (k:=k) (cs:=cs) (w:=w) (g:=f) (ps:=G) (assign:=a) (body:=b) e1 a4 aZ;obtain⟨e,ae,bd,⟨bc,X,U,al,g1,g2,g3⟩,aB,bf,a1⟩:=aP o ad p A _ e2 aK aJ (fr.atR ⟨t,mk++ds⟩ (.inRangeFunc l::k)::cs);subst al;unfold iQ at af
  split at af
  case h_2=>exact af.elim
  rename_i L aq;obtain⟨aN,Z⟩:=af;obtain⟨rec,ax,ba,bb,bh,bi,bj,bk,bl,ay⟩:=Ck g1.rel aq .exhausted L.pending;have aI:aG (s.heap++[.loop ⟨.ready,none,n,G.toList,a,b,R⟩]) (s.heap.length,0):=⟨.loop ⟨.ready,none,n,G.toList,a,b,R⟩,by simp,trivial⟩
  have aM:X.al s.heap.length=l:=((g1.step.loop _ aI ⟨_,aq⟩).2).trans e3;rw[aM]at ax ay;have aS:=run_endLoop (P:=P) ax (by rw[ba];exact aN);have S:eb P (lone (bw fr t ds (.code (.rangeFunc f G a b)::k)) cs w) (lone (bw fr t (mk++ds) ((rec.pending.map Item.code).toList++k)) cs (ae.putObj l (.loop {rec with state:=.exhausted}))):=by
   refine(he aU).trans (hg aB ?_);refine(he (step_leave_returned a1)).trans ?_;rw[finish_atR_inRangeFunc];exact .one (stepR_endRangeFunc aS)
  have S:eb P (lone (bw fr t ds (.code (.rangeFunc f G a b)::k)) cs w) (lone (bw fr t (mk++ds) ((L.pending.map Item.code).toList++k)) cs (ae.putObj l (.loop {rec with state:=.exhausted,pending:=L.pending}))):=by
   rw[<-bb];exact S
  have V:bR P p ad o A (s.heap++[.loop ⟨.ready,none,n,G.toList,a,b,R⟩]) U _ X _:=g1.trans ay;have am:cK P n p U X ⟨s.env,aa.set s.heap.length (.loop {L with st:=.exhausted})⟩ t (ae.putObj l (.loop {rec with state:=.exhausted,pending:=L.pending})):=by
   refine⟨V.rel,fun x=>?_,fun x=>?_,i.size⟩
   ·exact au.mono V.bQ (fun k hk=>V.ext.same k (.inr hk)) V.step _ _ (aC.mono ak _ (i.gD x)) (au.mono (fun _ x=>x) an ai _ _ (i.gD x) (i.env x))
   ·exact aC.mono V.eQ _ (aC.mono ak _ (i.gD x))
  have aj:dJ N ah ad w β s.heap p U (ae.putObj l (.loop {rec with state:=.exhausted,pending:=L.pending})) X (aa.set s.heap.length (.loop {L with st:=.exhausted})):=e4.trans V.fe;have W:Marks fr ah w p U (ae.putObj l (.loop {rec with state:=.exhausted,pending:=L.pending})) ds (mk++ds):=e5.trans e4 (Marks.refl _ _ _ _ _ _) V.fe;unfold kq at Z
  split at Z
  ·rename_i T;rw[T]at S;exact⟨.normal,_,p,U,X,t,_,mk++ds,Z,by rw[T];exact S,am,aj,W⟩
  ·rename_i id T;rw[T]at S;exact⟨.exit id,_,p,U,X,t,_,mk++ds,Z,⟨k,rfl,by rw[T];exact S⟩,am,aj,W⟩
  ·rename_i T;rw[T]at S;exact⟨.ret,_,p,U,X,t,_,mk++ds,Z,⟨k,by rw[T];exact S⟩,am,aj,W⟩
  ·exact Z.elim
 | .goto _,_,_,_,_,_,_,_,_,_,_,h,_,_| .refuse _,_,_,_,_,_,_,_,_,_,_,h,_,_=>by simp[b7]at h
end
end Go.aj
namespace Go.aj
variable[Gl]
def iD(i:Nat):List AV->Env
 |[]=>[]
 |v::r=>(i,v)::iD (i+1) r
def pD(P:dl)(s:St):ea->Option AV
 | .tmp t=>some (aM s.env t)
 | .cell a T=>match aM s.env a with
  | .ptr b path=>match s.heap[b]? with
   |some (.box _ t)=>match eM t path with
    |some v=>if kindOf P T=aa v then some v else none
    |none=>none
   |_=>none
  |_=>none
def fE(P:dl)(s:St):List ea->Option (List AV)
 |[]=>some []
 |r::rs=>match pD P s r,fE P s rs with
  |some v,some vs=>some (v::vs)
  |_,_=>none
def oneOf:List AV->AV
 |[v]=>v
 |vs=>match ef vs with
  |some l=>.p (.aE l)
  |none=>.aE vs
def jJ(f:AV->Option PV):List AV->Option (List PV)
 |[]=>some []
 |v::vs=>match f v,jJ f vs with
  |some p,some a=>some (p::a)
  |_,_=>none
def eh(H:Heap):Nat->AV->Option PV
 |0,.p v=>some v
 |0,_=>none
 |n+1,x=>match x with
  | .p v=>some v
  | .sl b ar ai off len=>match H[b]? with
   |some (.arr k e c es)=>
    if ar=e/\ai=c/\off+len<=es.length then
     if k.gr=true/\es=[]then some .aN else
     match jJ (eh H n) ((es.drop off).take len)with
     |some d=>some (.bL (k== .exact&&off+len==es.length) d)
     |none=>none
    else none
   |_=>none
  | .ptr b path=>match H[b]? with
   |some (.box _ t)=>match eM t path with
    |some s=>match eh H n s with
     |some p=>some (.ct p)
     |none=>none
    |none=>none
   |_=>none
  | .map b=>match H[b]? with
   |some (.map _ es)=>some (.eJ es)
   |_=>none
  | .func f fi ca=>match jJ (eh H n) fi,jJ (eh H n) ca with
   |some a,some b=>some (.func f a b)
   |_,_=>none
  | .st u fs=>match jJ (eh H n) fs with
   |some l=>some (.st u l)
   |none=>none
  | .aE vs=>match jJ (eh H n) vs with
   |some l=>some (.aE l)
   |none=>none
  | .bV _ _ _ _ _=>none
section
variable{P:dl}{w:db}{ad ah:Nat->Prop}{β:Bd}{H:Heap}
def Du(ad:Nat->Prop)(β:Bd)(H:Heap)(k:Nat):Prop:=ad k\/∃(b:Nat)(o:Obj),H[b]?=some o/\o.live/\β.al b=k
theorem Kj:∀{n:Nat}{v:AV}{p:PV},eh H n v=some p->(aa v=aL p)
 |0,v,p,h=>by
  cases v<;>simp[eh]at h;subst h;rfl
 |n+1,v,p,h=>by
  cases v<;>simp only[eh]at h
  case p v=>simp at h;subst h;rfl
  case bV=>simp at h
  case sl b ar ai off len=>
   split at h
   ·split at h
    ·split at h
     ·simp at h;subst h;rfl
     ·split at h
      ·simp at h;subst h;rfl
      ·simp at h
    ·simp at h
   ·simp at h
  case ptr b path=>
   split at h
   ·split at h
    ·split at h
     ·simp at h;subst h;rfl
     ·simp at h
    ·simp at h
   ·simp at h
  all_goals
   split at h
   ·simp at h;subst h;rfl
   ·simp at h
theorem IZ{v:AV}{p:PV}{cs:List c9}(hs:aa v=aL p)(hc:bf P w ad β H v cs){I:Nat->Prop}(h:∀x,au P w ad β H v x->aA P w I p x):aP P w I p cs:=by
 cases a:aa v with
 |bad=>exact((nD hc).2 a).elim
 |leaf=>
  obtain⟨c,rfl,b⟩:=(Cd a cs).1 hc;exact(sR (hs▸a) _).2 ⟨c,rfl,h _ b⟩
 |agg u=>exact(vF (hs▸a) cs).2 (h _ ((MR a cs).1 hc))
section lists
variable{f:AV->Option PV}{I:Nat->Prop}(hf:∀v p,f v=some p->aa v=aL p/\(aC (aG H) v->∀x,au P w ad β H v x->aA P w I p x))
include hf
theorem xY:∀{vs:List AV}{a:List PV},jJ f vs=some a->aR (aG H) vs->∀b,br P w ad β H vs b->bn P w I a b
 |[],a,h,_,b,hx=>by
  simp[jJ]at h;subst h;simpa[br,bn]using hx
 |v::vs,a,h,c,b,hx=>by
  simp only[jJ]at h
  split at h
  case h_2=>simp at h
  rename_i q g hq d;simp at h;subst h;simp only[aR]at c;simp only[br]at hx;obtain⟨y,e,rfl,k1,k2⟩:=hx;simp only[bn];exact⟨y,e,rfl,(hf _ _ hq).2 c.1 _ k1,xY d c.2 _ k2⟩
theorem Bp:∀{vs:List AV}{b:List PV},jJ f vs=some b->aR (aG H) vs->∀l a,bJ P w ad β H l vs a->aY P w I l b a
 |[],b,h,_,l,a,hx=>by
  simp[jJ]at h;subst h;cases l<;>simp_all [bJ,aY]
 |v::vs,b,h,d,l,a,hx=>by
  simp only[jJ]at h
  split at h
  case h_2=>simp at h
  rename_i q g hq e;simp at h;subst h;simp only[aR]at d;cases l with
  |nil=>simp[bJ]at hx
  |cons m l=>
   simp only[bJ]at hx;obtain⟨c,cs,rfl,k1,k2,k3⟩:=hx;simp only[aY];exact⟨c,cs,rfl,IZ (hf _ _ hq).1 k1 ((hf _ _ hq).2 d.1),k2,Bp e d.2 _ _ k3⟩
end lists
theorem xJ(e:bP P w ad β H ah):∀(n:Nat)(v:AV)(p:PV),eh H n v=some p->aC (aG H) v->∀x,au P w ad β H v x->aA P w (Du ad β H) p x
 |0,v,p,h,_,x,hx=>by
  cases v<;>simp[eh]at h;subst h;simp only[au]at hx;exact aA.mono (fun _=>.inl) (fun _ _=>rfl) _ _ hx
 |n+1,v,p,h,g,x,hx=>by
  have hf:∀v p,eh H n v=some p->aa v=aL p/\(aC (aG H) v->∀x,au P w ad β H v x->aA P w (Du ad β H) p x):=fun v p h=>⟨Kj h,xJ e n v p h⟩
  cases v<;>simp only[eh]at h
  case p v=>
   simp at h;subst h;simp only[au]at hx;exact aA.mono (fun _=>.inl) (fun _ _=>rfl) _ _ hx
  case bV=>simp at h
  case sl b ar ai off len=>
   split at h
   case h_2=>simp at h
   rename_i k ae Y y d
   split at h
   case isFalse=>simp at h
   rename_i L;obtain⟨rfl,rfl,z⟩:=L;simp only[au]at hx;obtain⟨_,hx⟩:=hx;simp only[bO]at hx;obtain⟨v1,v2,v3⟩:=hx k y d
   split at h
   ·rename_i r;simp at h;subst h;simp[aA,v2 r]
   ·rename_i r
    split at h
    case h_2=>simp at h
    rename_i W O;simp at h;subst h;rw[v3 r];rcases e.cB b _ d with hold|⟨cs,T,C,rest,i,j,B,G,Z,I,ab,ac⟩
    ·exact(r hold).elim
    obtain⟨a,m,c,e1,e2,e3,e4,e5⟩:=jC j off len v1;have R:aR (aG H) ((y.drop off).take len):=by
     have:=e.refs b _ d;rw[cG];intro v S;exact cG.1 this v (hR (hQ S))
    have M:((y.drop off).take len).length=len:=by simp;omega
    have k1:=Bp hf O R _ _ e2;have A:W.length=len:=by have:=(uO k1).2.1;simp at this;omega
    simp only[aA];refine⟨β.al b,off*ai,β.cap b-off,ai,m,by rw[A,<-M];exact k1,fun _=>.inr ⟨b,_,d,r,rfl⟩,?_,?_,?_,none,.inl rfl,?_⟩
    ·rw[<-e3];exact lM i (post:=c.flatten++rest) (by rw[B,e1];simp)
    ·intro hf;simp at hf;rw[A,I hf.1];omega
    ·rw[A];omega
    ·rw[A]
  case ptr b path=>
   split at h
   case h_2=>simp at h
   rename_i fz t d
   split at h
   case h_2=>simp at h
   rename_i s hs
   split at h
   case h_2=>simp at h
   rename_i q hq;simp at h;subst h;simp only[au]at hx;obtain⟨_,hx⟩:=hx;simp only[bO]at hx;obtain⟨X,V,o,rfl,N,hx⟩:=hx;obtain⟨rfl,rfl⟩:=hx (.inl ⟨fz,_,d⟩);obtain⟨cs,T,i,j,B,G⟩:=e.cB b _ d;obtain⟨pre,xs,post,e1,e2,e3,_⟩:=pf j hs N;have Q:aC (aG H) s:=u9 hs (e.refs b _ d);simp only[aA];refine⟨β.al b,V,xs,IZ (Kj hq) e3 (xJ e n _ _ hq Q),.inr ⟨b,_,d,trivial,rfl⟩,?_,rfl⟩;rw[<-e2];exact lM i e1
  case map b=>
   split at h
   case h_2=>simp at h
   rename_i fz y d;simp at h;subst h;simp only[au]at hx;obtain⟨_,hx⟩:=hx;simp only[bO]at hx;have hx:=hx.1 ⟨_,d,trivial⟩;obtain⟨E,clock,i,j,B⟩:=e.cB b _ d;simp only[aA];exact⟨β.al b,E,clock,.inr ⟨b,_,d,trivial,rfl⟩,i,cz.mono (fun _=>.inl) (fun _ _=>rfl) _ _ j,hx⟩
  case func f a b=>
   split at h
   case h_2=>simp at h
   rename_i a' b' J K;simp at h;subst h;simp only[aC]at g;simp only[au]at hx;obtain⟨F,D,k1,k2,k3⟩:=hx;simp only[aA];exact⟨F,D,xY hf J g.1 _ k1,xY hf K g.2 _ k2,k3⟩
  case st u fs=>
   split at h
   case h_2=>simp at h
   rename_i l z;simp at h;subst h;simp only[aC]at g;simp only[au]at hx;obtain⟨U,C,k1,k2,k3⟩:=hx;simp only[aA];exact⟨U,C,k1,Bp hf z g _ _ k2,k3⟩
  case aE vs=>
   split at h
   case h_2=>simp at h
   rename_i l z;simp at h;subst h;simp only[aC]at g;simp only[au]at hx;obtain⟨xs,k1,k2⟩:=hx;simp only[aA];exact⟨xs,xY hf z g _ k1,k2⟩
end
section
variable{P:dl}{ag:ed->Bool}{fit:Nat->Array Oper->Bool}
theorem Bn:∀(args:List AV)(i x:Nat),aM (iD i args) x=if i<=x then(args[x-i]?).getD (.p .undef)else .p .undef
 |[],i,x=>by simp[iD,aM]
 |v::r,i,x=>by
  simp only[iD,aM,Bn r]
  by_cases h:x=i
  ·subst h;simp
  ·by_cases b:i<=x
   ·have a:i+1<=x:=by omega
    simp only[h,b,a,if_true,if_false];rw[show x-i=(x-(i+1))+1 by omega,hP]
   ·have a:¬i+1<=x:=by omega
    simp[h,b,a]
theorem sS{w:db}{ad:Nat->Prop}{β:Bd}{H:Heap}:∀{vs:List AV}{xs:List c9},br P w ad β H vs xs->xs.length=vs.length/\∀i:Nat,au P w ad β H ((vs[i]?).getD (.p .undef)) ((xs[i]?).getD undef)
 |[],xs,h=>by simp only[br]at h;subst h;simp[au,aA]
 |v::vs,xs,h=>by
  simp only[br]at h;obtain⟨y,c,rfl,a,b⟩:=h;have:=sS b;refine⟨by simp[this.1],fun i=>?_⟩;cases i with
  |zero=>simpa using a
  |succ i=>simpa using this.2 i
theorem Va{ah ad:Nat->Prop}{β:Bd}{w:db}{H:Heap}{args:List AV}{a:List c9}{n:Nat}(f:bP P w ad β H ah)(d:br P w ad β H args a)(g:aR (aG H) args)(i:args.length<=n):
 cK P n ah ad β ⟨iD 0 args,H⟩ (a.toArray++bo (n-a.length) undef) w:=by
 obtain⟨b,c⟩:=sS d;refine⟨f,fun x=>?_,fun x=>?_,by simp[b];omega⟩
 ·have e:(a.toArray++bo (n-a.length) undef).getD x undef=(a[x]?).getD undef:=by
   rw[b3,<-cb];simp only[Array.toList_append,Array.toList_replicate]
   by_cases hx:x<a.length
   ·rw[List.getElem?_append_left (by simpa using hx)]
   ·rw[List.getElem?_append_right (by simpa using hx)];simp only[hA];rw[List.getElem?_eq_none (by simpa using hx)]
    split<;>rfl
  rw[e,Bn];simpa using c x
 ·rw[Bn];simp only[Nat.zero_le,if_true,Nat.sub_zero];cases h:args[x]? with
  |none=>simp[aC]
  |some v=>exact cG.1 g v (hE h)
theorem H5{w:db}{ad:Nat->Prop}{β:Bd}{H:Heap}{T:dg}{v:AV}{al off:Nat}{a:List c9}(hk:kindOf P T=aa v)(f:bf P w ad β H v a)(hc:gM w al off a):
 ∃g,(loadVar T ⟨al,off,none⟩).run P w=.ok g w/\au P w ad β H v g:=by
 obtain⟨o,n⟩:=nD f;have m:∀j,(⟨al,off,none⟩:Addr).add j=⟨al,off+j,none⟩:=by intro j;unfold Addr.add;split<;>simp_all
 unfold kindOf at hk;cases hs:aa v with
 |bad=>exact(n hs).elim
 |leaf=>
  rw[hs]at hk;obtain⟨c,rfl,e⟩:=(Cd hs a).1 f;refine⟨c,?_,e⟩;have h:=hc 0 (by simp);simp only[h8,List.getElem_cons_zero]at h;have b:(isAgg T).run P w=.ok false w:=by
   cases hu:P.underlying T with
   |none=>simp[hu]at hk
   |some d=>
    cases d<;>simp only[hu]at hk<;>first
     |(simp[isAgg,c6 hu];done)
     |(split at hk<;>simp at hk)
  simp[loadVar,b,h]
 |agg u=>
  rw[hs]at hk;have e:=(MR hs a).1 f;refine⟨.agg a.toArray,?_,e⟩;have b:(isAgg T).run P w=.ok true w/\P.cellsOf T=a.length:=by
   rw[o,hs];cases hu:P.underlying T with
   |none=>simp[hu]at hk
   |some d=>
    cases d<;>simp only[hu]at hk<;>first
     |(split at hk
       ·rename_i hc;simp at hk;subst hk;simp at hc;refine⟨by simp[isAgg,c6 hu],hc.2⟩
       ·simp at hk)
     |(split at hk<;>simp at hk)
  obtain⟨i,hi⟩:∃i,P.info? T=some i:=by
   cases hi:P.info? T with
   |none=>
    have l:=b.1;simp[isAgg,underlying,gA,hi]at l
   |some i=>exact⟨i,rfl⟩
  have q:(sizeOf T).run P w=.ok a.length w:=by
   rw[<-b.2];simp[sizeOf,typeInfo,hi,gy]
  have p:=run_loadCells_list (P:=P) w ⟨al,off,none⟩ a (fun j x hx=>by
   rw[m];have k:j<a.length:=(hp.1 hx).1;rw[hc j k];rw[hy k]at hx;exact hx)
  simp[loadVar,b.1,q,p]
theorem UX{n:Nat}{ah ad:Nat->Prop}{β:Bd}{s:St}{t:Array c9}{w:db}(h:cK P n ah ad β s t w){g:ea}{v:AV}(c:pD P s g=some v):
 ∃e,(match g with
  | .tmp x=>(pure (t.getD x undef):Sem c9)
  | .cell a T=>do loadVar T (<-asAddr (t.getD a undef))).run P w=.ok e w/\au P w ad β s.heap v e/\aC (aG s.heap) v:=by
 cases g with
 |tmp x=>
  simp[pD]at c;subst c;exact⟨_,rfl,h.env x,h.gD x⟩
 |cell a T=>
  simp only[pD]at c;have d:=h.env a
  split at c
  case h_2=>simp at c
  rename_i b B k;rw[k]at d
  split at c
  case h_2=>simp at c
  rename_i fz r f
  split at c
  case h_2=>simp at c
  rename_i v' hs
  split at c
  case isFalse=>simp at c
  rename_i hc;simp at c;subst c;simp only[au]at d;obtain⟨_,d⟩:=d;simp only[bO]at d;obtain⟨y,q,o,p,m,d⟩:=d;obtain⟨rfl,rfl⟩:=d (.inl ⟨fz,r,f⟩);obtain⟨cs,u,i,j,z,A⟩:=h.heap.cB b _ f;obtain⟨pre,xs,post,e1,e2,e3,_⟩:=pf j hs m;have l:gM w (β.al b) q xs:=by rw[<-e2];exact lM i e1
  obtain⟨e,k1,k2⟩:=H5 hc e3 l;refine⟨e,?_,k2,u9 hs (h.heap.refs b _ f)⟩;simp only[p,asAddr];simp[k1]
theorem H8{n:Nat}{ah ad:Nat->Prop}{β:Bd}{s:St}{t:Array c9}{w:db}(h:cK P n ah ad β s t w):∀{d:List ea}{vs:List AV},fE P s d=some vs->
 ∃c:List c9,(d.mapM (fun i:ea=>match i with
  | .tmp x=>(pure (t.getD x undef):Sem c9)
  | .cell a T=>do loadVar T (<-asAddr (t.getD a undef)))).run P w=.ok c w/\br P w ad β s.heap vs c/\aR (aG s.heap) vs
 |[],vs,b=>by
  simp[fE]at b;subst b;exact⟨[],by simp,by simp[br],by simp[aR]⟩
 |r::d,vs,b=>by
  simp only[fE]at b
  split at b
  case h_2=>simp at b
  rename_i v j f g;simp at b;subst b;obtain⟨e,k1,k2,k3⟩:=UX h f;obtain⟨c,g1,g2,g3⟩:=H8 h g;refine⟨e::c,?_,by simp only[br];exact⟨e,c,rfl,k2,g2⟩,by simp only[aR];exact⟨k3,g3⟩⟩;simp only[h1,g9,k1,g8,g1];rfl
theorem Jv{w:db}{ad:Nat->Prop}{β:Bd}{H:Heap}{vs:List AV}{a:List c9}(h:br P w ad β H vs a)(d:aR (aG H) vs):
 au P w ad β H (oneOf vs) (if h:a.toArray.size=1 then a.toArray[0]else .tuple a.toArray)/\aC (aG H) (oneOf vs):=by
 have b:=(sS h).1
 match vs,a,h with
 |[v],[c],h=>
  simp only[br]at h;obtain⟨y,j,g,e,i⟩:=h;cases g;simp only[aR]at d;exact⟨by simpa[oneOf]using e,by simpa[oneOf]using d.1⟩
 |[],[],h=>exact⟨by simp[oneOf,ef,au,aA,bn],by simp[oneOf,ef,aC]⟩
 |v1::v2::vs,c1::c2::a,h=>
  have hs:¬(c1::c2::a).toArray.size=1:=by simp
  rw[dif_neg hs];simp only[oneOf];cases f:ef (v1::v2::vs)with
  |none=>exact⟨by simp only[au];exact⟨_,h,rfl⟩,by simpa only[aC]using d⟩
  |some l=>
   have:=lR f;rw[this]at h;exact⟨by simp only[au,aA];exact⟨_,jq.1 h,rfl⟩,by simp[aC]⟩
 |[],_::_,_=>simp at b
 |[_],[],_=>simp at b
 |[_],_::_::_,_=>simp at b
 |_::_::_,[],_=>simp at b
 |_::_::_,[_],_=>simp at b
theorem takes{fr:dz}{cs:List dz}(c:fr.mode= .returning):∀(a:List Nat)(w:db),a.Nodup->(∀r∈a,w.heap[r]?=some (.deferred (some [])))->
 ∃w',eb P (lone {fr with defers:=a.map mark} cs w) (lone {fr with defers:=[]} cs w')/\w'.heap.size=w.heap.size/\(∀k,k∉a->w'.heap[k]?=w.heap[k]?)/\(w'.os=w.os/\w'.output=w.output)
 |[],w,_,_=>⟨w,hh _ _,rfl,fun _ _=>rfl,rfl,rfl⟩
 |r::a,w,b,h=>by
  rw[List.nodup_cons]at b;have f:=h r (by simp);have hk:=run_takeDeferred (P:=P) f;have m:=(bv.1 f).1;obtain⟨w',g,i,j,l⟩:=takes c a (w.putObj r (.deferred none)) b.2 (fun x hx=>(hn (fun(e:x=r)=>b.1 (e▸hx))).trans (h x (by simp[hx])));refine⟨w',(he (step_collected (fr:={fr with defers:=(r::a).map mark}) (d:=mark r) (ds:=a.map mark) (by simp[c]) rfl rfl hk)).trans g,by simpa using i,fun k hk=>?_,l⟩;simp only[List.mem_cons,not_or]at hk;exact(j k hk.2).trans (hn hk.1)
theorem It{N:Nat}{f:ed}{fn:Func}{c:Code}(A:lJ P ag)(z:sL P ag fit)(hf:P.funcs[f]?=some fn)(G:fn.body=some c)(O:codeOk fit fn.ntmps c=true)
 {args:List AV}{H:Heap}{R:List AV->St->Prop}(L:args.length<=fn.ntmps)
 (U:b7 P ag (fn.ntmps,N) c (fun e s=>(match e with
  | .exit _=>False
  |_=>True)/\∃vs,fE P s fn.results.toList=some vs/\R vs s) ⟨iD 0 args,H⟩)
 {w:db}{ad ah:Nat->Prop}{β:Bd}{d:List c9}(i:bP P w ad β H ah)(u:br P w ad β H args d)(Q:aR (aG H) args):
 Calls P f d.toArray w fun e w'=>∃vs s a aD aH t,e=.returned (if h:a.toArray.size=1 then a.toArray[0]else .tuple a.toArray)/\R vs s/\cK P fn.ntmps ah aD aH s t w'/\dJ N ah ad w β H ah aD w' aH s.heap/\
  br P w' aD aH s.heap vs a/\aR (aG s.heap) vs:=by
 intro cs;have Y:=(sS u).1;obtain⟨g,j⟩:∃g:dz,g={fn:=f,tmps:=#[],todo:=[],defers:=[],mode:=.run,kind:=.normal}:=⟨_,rfl⟩
 have I:Frame.enter P f d.toArray .normal=bw g (d.toArray++bo (fn.ntmps-d.length) undef) [] [.code c]:=by
  subst j;simp[Frame.enter,bw,hf,G]
 obtain⟨e,s,W,aD,aH,t,p,X,⟨B,vs,C,D⟩,o,m,b,E⟩:=mv (fr:=g) (cs:=cs) (ds:=[]) A z c [] O U (Va i u Q L) (fun l J=>by subst j;cases J);obtain⟨rs,v,M,n,Z,_⟩:=E;rw[h0]at v;subst v;rw[I]
 have q:∀todo,eb P (lone (bw g (d.toArray++bo (fn.ntmps-d.length) undef) [] [.code c]) cs w) (lone {bw g t (rs.map mark) todo with mode:= .returning} cs p)->
  ∃e w' fr,(∃vs s a aD aH t,e=.returned (if h:a.toArray.size=1 then a.toArray[0]else .tuple a.toArray)/\R vs s/\cK P fn.ntmps ah aD aH s t w'/\dJ N ah ad w β H ah aD w' aH s.heap/\
   br P w' aD aH s.heap vs a/\aR (aG s.heap) vs)/\Comes P (lone (bw g (d.toArray++bo (fn.ntmps-d.length) undef) [] [.code c]) cs w) (lone fr cs w') e/\fr.fn=f/\fr.leaving P w' e:=by
  intro todo aB;obtain⟨w',t1,t2,t3,t4⟩:=takes (P:=P) (fr:={bw g t (rs.map mark) todo with mode:=.returning}) (cs:=cs) rfl rs p M (fun r i=>(n r i).2.2.2);have T:∀k,aD k->w'.heap[k]?=p.heap[k]?:=fun k hk=>t3 k (fun i=>(n k i).2.2.1 hk);have y:cK P fn.ntmps ah aD aH s t w':=⟨m.heap.shut b.dX (R:=fun k=>k∈rs) (fun x hx=>⟨(n x hx).2.1,(n x hx).2.2.1⟩) t2 t3,fun x=>au.mono (fun _ x=>x) T (b9.refl _ _) _ _ (m.gD x) (m.env x),m.gD,m.size⟩
  have F:dJ N ah ad w β H ah aD w' aH s.heap:=⟨fun _ x=>x,b.bQ,b.fresh,⟨by rw[t2];exact b.ext.size,fun k hk=>(t3 k (fun K=>by
   have:=(n k K).1;have:=hk.elim (i.dX k) (i.bQ k);omega)).trans (b.ext.same k hk),t4.1.trans b.ext.io.1,t4.2.trans b.ext.io.2⟩,b.step,b.eQ,b.loop⟩
  obtain⟨a,g1,g2,g3⟩:=H8 y C;have S:(results fn t).run P w'=.ok (if h:a.toArray.size=1 then a.toArray[0]else .tuple a.toArray) w':=by
   simp only[results];rw[b4];rw[g9,hb]
   erw [g1]
   rfl
  refine⟨_,w',{bw g t [] todo with mode:=.returning},⟨vs,s,a,aD,aH,t,rfl,D,y,F,g2,g3⟩,hg aB t1,by subst j;rfl,?_⟩;subst j;exact⟨rfl,rfl,rfl,fn,hf,S⟩
 cases e with
 |exit id=>exact B.elim
 |normal=>
  exact q [] (hg o (.one (eo (by subst j;simp[stepG,stepG.exec,bw]))))
 |ret=>
  obtain⟨V,o⟩:=o;exact q (.code .ret::V) (hg o (.one (eo (by subst j;simp[stepG,stepG.exec,bw]))))
theorem KX{f:ed}{fn:Func}{c:Code}(n:lJ P ag)(m:sL P ag fit)(A:Enters P f)(hf:P.funcs[f]?=some fn)(z:fn.body=some c)(E:codeOk fit fn.ntmps c=true)
 {args:List PV}{v:PV}(D:args.length<=fn.ntmps)
 (I:b7 P ag (fn.ntmps,0) c (fun e s=>(match e with
  | .exit _=>False
  |_=>True)/\∃vs,fE P s fn.results.toList=some vs/\eh s.heap 9 (oneOf vs)=some v) ⟨iD 0 (args.map .p),[]⟩):rF P f args v:=by
 refine⟨A,fun w ad J C B y=>?_⟩;have F:bP P w ad ⟨id,id⟩ [] (fun k=>k<w.heap.size):=⟨by simp,by simp,by simp,C,fun _ h=>h,B⟩
 refine(It n m hf z E (R:=fun vs s=>eh s.heap 9 (oneOf vs)=some v) (by simpa using D) I F (jq.2 y) (iZ _ _)).mono ?_;rintro e w' ⟨vs,s,K,aD,aH,t,rfl,x,hs,d,G,H⟩;obtain⟨q,r⟩:=Jv G H;have u:=xJ hs.heap _ _ _ x r _ q;refine⟨_,Du aD aH s.heap,rfl,fun k hk=>.inl (d.bQ k hk),?_,?_,d.ext.size,fun k hk=>d.ext.same k (.inl hk),d.ext.io,u⟩
 ·rintro k (hk|⟨b,o,j,g,rfl⟩)
  ·rcases d.fresh k hk with h|h
   ·exact .inl h
   ·exact .inr (by omega)
  ·by_cases l:aH.al b<w.heap.size
   ·
    left;have a:=hs.heap.cB b o j;have:aD (aH.al b)\/¬(aH.al b<w.heap.size):=by
     have key:∀fz,cw aD aH (fun k=>k<w.heap.size) fz b->aD (aH.al b)\/¬(aH.al b<w.heap.size):=fun fz h=>by
      cases fz with
      |true=>exact .inl h
      |false=>exact .inr h.2
     cases o with
     |hole=>exact g.elim
     |dead=>exact g.elim
     |box fz t=>obtain⟨_,_,_,_,h,_⟩:=a;exact key _ h
     |arr k ar ai es=>
      rcases a with a|⟨_,_,_,_,_,_,_,_,_,_,h,_⟩
      ·exact(g a).elim
      ·exact key _ h
     |map fz es=>obtain⟨_,_,_,_,h⟩:=a;exact key _ h
     |di ks vs=>obtain⟨_,_,_,_,_,h⟩:=a;exact key _ h
     |dt s pos=>obtain⟨_,_,_,h⟩:=a;exact key _ h
     |loop L=>obtain⟨_,_,_,_,_,_,h⟩:=a;exact key _ h
    rcases this with h|h
    ·rcases d.fresh _ h with i|i
     ·exact i
     ·exact(i l).elim
    ·exact(h l).elim
   ·exact .inr (by omega)
 ·rintro k (hk|⟨b,o,j,g,rfl⟩)
  ·exact hs.heap.bQ k hk
  ·exact hs.heap.mE j g
def tR(P:dl)(a:List ea)(N:Nat)(H':Heap)(v:AV)(e:bp)(s:St):Prop:=
 (match e with
  | .exit _=>False
  |_=>True)/\∃vs,fE P s a=some vs/\oneOf vs=v/\(H'=s.heap\/(dE N s ⟨[],H'⟩/\aC (aG H') v))
theorem WC{f:ed}{fn:Func}{c:Code}(q:lJ P ag)(p:sL P ag fit)(u:Enters P f)(hf:P.funcs[f]?=some fn)(j:fn.body=some c)(A:codeOk fit fn.ntmps c=true)
 {args:List AV}{H H':Heap}{v:AV}(z:args.length<=fn.ntmps)(G:b7 P ag (fn.ntmps,H.length) c (tR P fn.results.toList H.length H' v) ⟨iD 0 args,H⟩):c7 P f H args H' v:=by
 refine⟨u,fun w ad ah β I B r C=>?_⟩;refine(It q p hf j A (R:=fun vs s=>oneOf vs=v/\(H'=s.heap\/(dE H.length s ⟨[],H'⟩/\aC (aG H') v))) z G B r C).mono ?_;rintro e w' ⟨vs,s,g,aD,aH,t,rfl,⟨rfl,a⟩,hs,m,F,E⟩;obtain⟨i,k⟩:=Jv F E;obtain⟨d,k1,k2,k3⟩:dJ H.length ah ad w β H ah aD w' aH H'/\bP P w' aD aH H' ah/\au P w' aD aH H' (oneOf vs) (if h:g.toArray.size=1 then g.toArray[0]else .tuple g.toArray)/\aC (aG H') (oneOf vs):=by
  rcases a with rfl|⟨a,D⟩
  ·exact⟨m,hs.heap,i,k⟩
  ·refine⟨m.trans (a.fe (β:=aH) (ah:=ah) (ad:=aD) (w:=w')),(a.rel hs).heap,?_,D⟩;rcases a with a|a
   ·have e:H'=s.heap:=by rw[<-a]
    rw[e];exact i
   ·exact au.mono (fun _ x=>x) (fun _ _=>rfl) a.1.step _ _ k i
 refine⟨_,aH,aD,rfl,⟨d.bQ,d.fresh,d.ext,d.step.full,k1,fun x hx=>?_,fun b j=>?_⟩,k2,k3⟩
 ·obtain⟨o,n,y⟩:=hx;exact d.eQ x (hp.1 n).1 ⟨o,n,y⟩
 ·obtain⟨L,l⟩:=j;exact d.loop b (hp.1 l).1 ⟨L,l⟩
theorem cK.post{n:Nat}{ah ad aD:Nat->Prop}{β aH:Bd}{s:St}{H':Heap}{t:Array c9}{w w':db}(h:cK P n ah ad β s t w)(a:bR P ah ad w β s.heap aD w' aH H'):cK P n ah aD aH ⟨s.env,H'⟩ t w':=
 ⟨a.rel,fun x=>au.mono a.bQ (fun k hk=>a.ext.same k (.inr hk)) a.step _ _ (h.gD x) (h.env x),fun x=>aC.mono a.eQ _ (h.gD x),h.size⟩
def qU:List Tmp->List AV->Env->Env
 |t::ts,v::vs,e=>qU ts vs ((t,v)::e)
 |_,_,e=>e
def gO:bp->Option Code
 | .normal=>none
 | .exit id=>some (.exit id)
 | .ret=>some .ret
def sN(b:Nat)(K:Heap->AV->Prop)(e:bp)(s:St):Prop:=
 match s.heap[b]? with
 |some (.loop L)=>K (s.heap.set b (.loop {L with st:=if(gO e).isNone then .ready else .done,pending:=gO e})) (.p (.bool (gO e).isNone))
 |_=>False
def xI(P:dl)(ag:ed->Bool)(q:Cx)(b:Nat)(body:Code)(K:Heap->AV->Prop)(e:bp)(s:St):Prop:=
 match e,s.heap[b]? with
 | .normal,some (.loop L)=>L.st=.ready/\b7 P ag q body (sN b K) ⟨s.env,s.heap.set b (.loop {L with st:=.busy})⟩
 |_,_=>False
def yw(P:dl)(ag:ed->Bool)(L:fg)(b:Nat)(args:List AV)(H:Heap)(K:Heap->AV->Prop):Prop:=
 b7 P ag (L.n,H.length) L.assign (xI P ag (L.n,H.length) b L.body K) ⟨qU L.params args L.env,H⟩
def qH(ts:List Tmp)(a:List c9)(t:Array c9):Array c9:=(ts.zip a).foldl (fun t(p,v)=>t.setIfInBounds p v) t
theorem I7{w:db}{ad:Nat->Prop}{β:Bd}{H:Heap}:∀{ts:List Tmp}{vs:List AV}{xs:List c9}{e:Env}{t:Array c9},(∀x∈ts,x<t.size)->br P w ad β H vs xs->aR (aG H) vs->(∀x,au P w ad β H (aM e x) (t.getD x undef))->(∀x,aC (aG H) (aM e x))->
 (qH ts xs t).size=t.size/\(∀x,au P w ad β H (aM (qU ts vs e) x) ((qH ts xs t).getD x undef))/\(∀x,aC (aG H) (aM (qU ts vs e) x))
 |[],vs,xs,e,t,_,a,_,b,c=>by
  cases vs<;>exact⟨rfl,b,c⟩
 |p::ts,[],xs,e,t,_,a,_,b,c=>by
  simp only[br]at a;subst a;exact⟨rfl,b,c⟩
 |p::ts,v::vs,xs,e,t,f,a,d,b,c=>by
  simp only[br]at a;obtain⟨y,h,rfl,k1,k2⟩:=a;simp only[aR]at d;have g:p<t.size:=f p (by simp);obtain⟨g1,g2,g3⟩:=I7 (ts:=ts) (vs:=vs) (xs:=h) (e:=(p,v)::e) (t:=t.setIfInBounds p y) (fun x hx=>by simpa using f x (by simp[hx])) k2 d.2
   (fun x=>by
    simp only[aM]
    by_cases hx:x=p
    ·subst hx;simp[g];exact k1
    ·simp only[hx,if_false,b3,Array.getElem?_setIfInBounds_ne (Ne.symm hx)];simpa using b x)
   (fun x=>by
    simp only[aM]
    split
    ·exact d.1
    ·exact c x)
  exact⟨by simpa[qH]using g1,g2,g3⟩
theorem zip_toArray(a:List Tmp)(b:List c9)(t:Array c9):(a.toArray.zip b.toArray).foldl (fun t(p,v)=>t.setIfInBounds p v) t=qH a b t:=by
 unfold qH;rw[<-ce];simp
theorem WA(I:lJ P ag)(G:sL P ag fit){b:Nat}{L:fg}{H H':Heap}{args:List AV}{v:AV}(f:H[b]?=some (.loop L))(aD:args.length=L.params.length)(aE:∀x∈L.params,x<L.n)
 (ar:codeOk fit L.n L.assign=true)(hc:codeOk fit L.n L.body=true)(aJ:yw P ag L b args H (fun af aS=>aS=v/\dE H.length ⟨[],af⟩ ⟨[],H'⟩)):ir P b H args H' v:=by
 refine⟨⟨L,f⟩,fun w ad ah β i B W aw=>?_⟩;obtain⟨tmps,defers,fn,ap,M,aq,aW⟩:=B.cB b _ f;have s:b<H.length:=(hp.1 f).1;have ay:=(sS W).1;have j:=run_yield (P:=P) (args:=i.toArray) ap (by simp[ay,aD]);obtain⟨q1,aO,aP⟩:=I7 (ts:=L.params) (vs:=args) (xs:=i) (e:=L.env) (t:=tmps) (fun x hx=>by rw[M];exact aE x hx) W aw aq (B.refs b _ f);rw[zip_toArray]at j;refine⟨fn,_,_,_,j,fun K ae=>?_⟩;obtain⟨c,z⟩:∃c:dz,c={fn:=fn,tmps:=#[],todo:=[],defers:=[],mode:=.run,kind:=.normal,roundOf:=some (β.al b)}:=⟨_,rfl⟩
 have g:c.roundOf=some (β.al b):=by subst z;rfl
 have A:c.kind=.normal:=by subst z;rfl
 have az:Frame.round (β.al b) fn (qH L.params i tmps) L.assign L.body .normal=bw c (qH L.params i tmps) [] [.code L.assign,.beginRound,.code L.body]:=by subst z;rfl
 have V:q7 H.length c β H:=fun l Z=>by
  rw[g]at Z;cases Z;exact⟨b,s,⟨L,f⟩,rfl⟩
 obtain⟨e1,s1,aV,aU,aT,t1,bd,am,g1,ao,g3,g4,g5⟩:=mv (N:=H.length) (fr:=c) (cs:=K::ae) (ds:=[]) I G L.assign [.beginRound,.code L.body] ar aJ ⟨B,aO,aP,q1.trans M⟩ V;unfold xI at g1
 split at g1
 case h_2=>exact g1.elim
 rename_i q Q;obtain⟨g1,g6⟩:=g1;obtain⟨bb,m1,_,_,m4,m5⟩:=g5;have aH:=m5 (by rw[g];rfl);subst aH;obtain rfl:am=[]:=m1;have ak:aT.al b=β.al b:=(g4.step.loop b s ⟨_,f,trivial⟩ ⟨q,Q⟩).2;obtain⟨rec,ac,aQ,aR,a6,a7,a8,a9,ba,D⟩:=Ck g3.heap Q .busy q.pending;rw[ak]at ac D;have X:=run_beginRound (P:=P) ac (aQ.trans g1);have ax:({rec with state:=.busy}:Loop)={rec with state:=.busy,pending:=q.pending}:=by rw[<-aR]
 rw[ax]at X;have T:=g4.trans (D.fe (N:=H.length));obtain⟨e2,s2,r,p,m,t2,F,an,k1,k2,k3,k4,k5⟩:=mv (N:=H.length) (fr:=c) (cs:=K::ae) (ds:=[]) I G L.body [] hc g6 (g3.post D) (V.fe T);unfold sN at k1
 split at k1
 case h_2=>exact k1.elim
 rename_i J S;obtain⟨rfl,Y⟩:=k1;obtain⟨bc,aL,_,_,n4,aN⟩:=k5;have aI:=aN (by rw[g];rfl);subst aI;obtain rfl:an=[]:=aL;have aX:∀k,r k->ah k:=fun k hk=>(m4 k ((n4 k hk).resolve_right (by simp))).resolve_right (by simp);have U:=T.trans k4;have al:m.al b=β.al b:=(U.step.loop b s ⟨_,f,trivial⟩ ⟨J,S⟩).2;obtain⟨E,ab,aY,aZ,a0,a1,a3,a4,a5,C⟩:=Ck k3.heap S (if(gO e2).isNone then .ready else .done) (gO e2);rw[al]at ab C;have u:=run_endRound (P:=P) (gO e2) ab;have av:=U.trans (C.fe (N:=H.length));have d:=av.trans (Y.fe (β:=m) (ah:=r) (ad:=p) (w:=F.putObj (β.al b) (.loop {E with state:=if(gO e2).isNone then .ready else .done,pending:=gO e2})));refine⟨.bool (gO e2).isNone,F.putObj (β.al b) (.loop {E with state:=if(gO e2).isNone then .ready else .done,pending:=gO e2}),m,p,?_,?_,by simp[au,aA],by simp[aC]⟩
 ·rw[az];refine hg (ao:eb P _ _) ((he (stepR_beginRound (b:=c) (a:=⟨t1,[]⟩) g X)).trans ?_);cases e2 with
  |normal=>exact hg (k2:eb P _ _) (.one (stepR_round_end (b:=c) (a:=⟨t2,[]⟩) g A u))
  |exit id=>
   obtain⟨aK,aj,a2⟩:=k2;exact hg a2 (.one (stepR_round_exit (b:=c) (a:=⟨t2,[]⟩) g A (by rw[aj];rfl) u))
  |ret=>
   obtain⟨aK,a2⟩:=k2;exact hg a2 (.one (stepR_round_ret (b:=c) (a:=⟨t2,[]⟩) g A u))
 ·have aF:cK P 0 r p m ⟨[],s2.heap.set b (.loop {J with st:=if(gO e2).isNone then .ready else .done,pending:=gO e2})⟩ #[] (F.putObj (β.al b) (.loop {E with state:=if(gO e2).isNone then .ready else .done,pending:=gO e2})):=
   ⟨C.rel,fun x=>by simp[aM,au,aA],fun x=>by simp[aM,aC],rfl⟩
  have aG:=(Y.rel aF).heap;refine⟨d.bQ,d.fresh,d.ext,d.step.full,aG.shut d.dX (R:=fun _=>False) (fun _ h=>h.elim) rfl (fun _ _=>rfl),fun x hx=>?_,fun y j=>?_⟩
  ·obtain⟨o,aa,aB⟩:=hx;exact d.eQ x (hp.1 aa).1 ⟨o,aa,aB⟩
  ·obtain⟨ai,O⟩:=j;exact d.loop y (hp.1 O).1 ⟨ai,O⟩
end
section
variable{P:dl}
theorem LD{w:db}{ad:Nat->Prop}{b:Bool}{v:c9}:aA P w ad (.bool b) v↔v=.bool b:=by simp[aA]
theorem CZ{w:db}{ad:Nat->Prop}{k:en}{n:Int}{v:c9}:aA P w ad (.int k n) v↔v=.int k n:=by simp[aA]
theorem MO{w:db}{ad:Nat->Prop}{s:List Nat}{v:c9}:aA P w ad (.str s) v↔∃bs:ByteArray,v=.string bs/\s=bs.data.toList.map (·.toNat):=by simp[aA]
theorem er{s:Sem c9}{w:db}{a:c9}(h:s.run P w=.ok a w):(do pure (Next.value (<-s)):Sem Next).run P w=.ok (.value a) w:=by simp[h]
theorem uN{s:Sem c9}{w w':db}{a:c9}(h:s.run P w=.ok a w'):(do pure (Next.value (<-s)):Sem Next).run P w=.ok (.value a) w':=by simp[h]
theorem xu{T:dg}{v:AV}{w:db}{ad:Nat->Prop}{β:Bd}{H:Heap}{cs:List c9}(hk:kindOf P T=aa v)(d:bf P w ad β H v cs):P.cellsOf T=cs.length/\∃i,P.info? T=some i/\i.size=cs.length:=by
 obtain⟨c,a⟩:=nD d;have b:P.cellsOf T=cs.length:=by
  rw[c,<-hk];unfold kindOf at hk⊢
  split at hk
  ·split at hk<;>rename_i hc
   ·simp at hc;rw[if_pos (by simpa using hc)];simp[bD,hc.2]
   ·exact(a hk.symm).elim
  ·split at hk<;>rename_i hc
   ·simp at hc;rw[if_pos (by simpa using hc)];simp[bD,hc]
   ·exact(a hk.symm).elim
  ·split at hk<;>rename_i hc
   ·simp at hc;rw[if_pos (by simpa using hc)];simp[bD,hc]
   ·exact(a hk.symm).elim
  ·exact(a hk.symm).elim
 refine⟨b,?_⟩;cases hi:P.info? T with
 |none=>
  have:kindOf P T=.bad:=by simp[kindOf,gA,hi]
  rw[this]at hk;exact(a hk.symm).elim
 |some i=>exact⟨i,rfl,by simpa[gy,hi]using b⟩
variable{o:Oper}{ρ:da->AV}{base:Nat}
theorem Qx{x:da}(a:o.op=.move x\/o.op=.assign x):bg P o ρ base {v:=ρ x}:=by
 refine bg.same fun H w ad ah β c d b _=>?_;refine⟨c x,?_,b x ?_⟩
 ·rcases a with a|a<;>simp[dk,a]
 ·rcases a with a|a<;>simp[a,gj]
theorem aDs{c a b:da}{t:Bool}(d:o.op=.pick c a b)(hc:ρ c=.p (.bool t)):bg P o ρ base {v:=if t then ρ a else ρ b}:=by
 refine bg.same fun H w ad ah β g h f _=>?_;have e:=(f c (by simp[d,gj])).1;rw[hc]at e;simp only[au,LD]at e;refine⟨if t then g a else g b,by simp[dk,d,e,asBool],?_⟩;cases t with
 |true=>exact f a (by simp[d,gj])
 |false=>exact f b (by simp[d,gj])
theorem Jb{t:da}{i:Nat}{vs:List AV}{v:AV}(h:o.op=.extract t i)(e:ρ t=.aE vs\/∃l,ρ t=.p (.aE l)/\vs=l.map .p)(hi:vs[i]?=some v):bg P o ρ base {v}:=by
 refine bg.same fun H w ad ah β k n j _=>?_;obtain⟨d,f⟩:=j t (by simp[h,gj]);obtain⟨c,k1,k2,k3⟩:∃c,br P w ad β H vs c/\k t=.tuple c.toArray/\aR (aG H) vs:=by
  rcases e with e|⟨l,e,rfl⟩
  ·rw[e]at d f;simp only[au,aC]at d f;obtain⟨c,a,b⟩:=d;exact⟨c,a,b,f⟩
  ·rw[e]at d;simp only[au,aA]at d;obtain⟨c,a,b⟩:=d;exact⟨c,jq.2 a,b,iZ _ _⟩
 obtain⟨g1,g2⟩:=sS k1;have m:i<vs.length:=(hp.1 hi).1;have hx:c[i]?=some (c[i]'(by omega)):=hy (by omega);have g:=g2 i;rw[hi,hx]at g;refine⟨c[i]'(by omega),?_,by simpa using g,cG.1 k3 v (hE hi)⟩;simp only[dk,h,Instr.extract,k2];simp[hx]
theorem aDl{c:BinOp}{T j:dg}{x y:da}{k d:en}{a b:Int}{K:PV->Prop}(g:o.op= .binOp c T x y j)(hx:ρ x= .p (.int k a))(t:ρ y= .p (.int d b))(hk:k=d\/c= .shl\/c= .shr)
 (h:pI c k a b K)(ak:List (Nat×Obj)):∃v,K v/\bg P o ρ base {v:=.p v,ak}:=by
 have key:∀v,K v->(∀w:db,(binOp c T (.int k a) (.int d b)).run P w= .ok (match v with| .int k n=> .int k n| .bool b=> .bool b|_=>undef) w)->(∀w ad,aA P w ad v (match v with| .int k n=> .int k n| .bool b=> .bool b|_=>undef))->
  ∃v,K v/\bg P o ρ base {v:=.p v,ak}:=by
  intro v s r q;refine⟨v,s,bg.same fun H w ad ah β z u i _=>?_⟩;have e:=(i x (by simp[g,gj])).1;have f:=(i y (by simp[g,gj])).1;rw[hx]at e;rw[t]at f;simp only[au,CZ]at e f;refine⟨_,?_,by simp only[au];exact q w ad,by simp[aC]⟩;simp only[dk,g,e,f];refine er ?_;have m:(eqGuard c T x y (.int k a) (.int d b)).run P w=.ok () w:=by
   unfold eqGuard
   split<;>simp
  simp[m,r w]
 cases c<;>simp only[pI]at h
 case add|sub|mul|and|or|xor|andNot|eql|neq|lss|leq|gtr|geq=>
  obtain rfl:k=d:=by rcases hk with h|h|h<;>first|exact h|cases h
  exact key _ h (fun w=>by simp[binOp,gt,gx,Op.intCmp]) (fun w ad=>by simp[aA])
 case quo|rem=>
  obtain rfl:k=d:=by rcases hk with h|h|h<;>first|exact h|cases h
  exact key _ h.2 (fun w=>by simp[binOp,Op.intDiv,h.1]) (fun w ad=>by simp[aA])
 case shl|shr=>
  have l:¬b<0:=by omega
  exact key _ h.2 (fun w=>by simp[binOp,Op.shift,l]) (fun w ad=>by simp[aA])
theorem ED{u:UnOp}{T:dg}{x:da}{v r:PV}(c:o.op= .unOp u T x)(hx:ρ x= .p v)
 (h:(u=.not/\∃b,v=.bool b/\r=.bool (!b))\/(u=.neg/\∃k n,v=.int k n/\r=.int k (k.wrap (0-n)))\/
  (u=.xor/\∃k n,v=.int k n/\r=.int k (k.wrap (BitVec.ofInt k.bits (if k.signed then -1 else k.max)^^^BitVec.ofInt k.bits n).toNat))):bg P o ρ base {v:=.p r}:=by
 refine bg.same fun H w ad ah β f e d _=>?_;have a:=(d x (by simp[c,gj])).1;rw[hx]at a;simp only[au]at a;rcases h with⟨rfl,b,rfl,rfl⟩|⟨rfl,k,n,rfl,rfl⟩|⟨rfl,k,n,rfl,rfl⟩
 ·rw[LD]at a;exact⟨_,by simp only[dk,c,a];exact er (by simp[gm];rfl),by simp[au,aA],by simp[aC]⟩
 ·rw[CZ]at a;exact⟨_,by simp only[dk,c,a];exact er (by simp[gm,gt];rfl),by simp[au,aA],by simp[aC]⟩
 ·rw[CZ]at a;exact⟨_,by simp only[dk,c,a];exact er (by simp[gm,gx];rfl),by simp[au,aA],by simp[aC]⟩
end
section
variable{P:dl}{w:db}{ad ah:Nat->Prop}{β:Bd}{H:Heap}
variable{o:Oper}{ρ:da->AV}{base:Nat}
theorem lH(H:Heap)(b:Nat)(o':Obj):bm H ([]++newAt b [o'])=H.set b o':=rfl
theorem Vz{x:AV}{T:dg}(hs:aa x≠ .bad)(hx:jg T (aa x)=true)(hrefs:∀(H:Heap)(w:db)(ad ah:Nat->Prop)(β:Bd)(d:da->c9),bP P w ad β H ah->
 (∀y∈o.op.operands,au P w ad β H (ρ y) (d y)/\aC (aG H) (ρ y))->∃a,au P w ad β H x a/\aC (aG H) x/\
  (dk d o).run P w=.ok (.value (.pointer (some ⟨w.heap.size,0,none⟩))) {w with heap:=w.heap.push (.cells a.cells T)}):
 bg P o ρ base {v:=.ptr base [],aQ:=[.box false x]}:=by
 intro H w ad ah β d b m _ j;obtain⟨a,f,e,g⟩:=hrefs H w ad ah β d b m;have c:H[base]?=some .hole:=by simpa using j 0 (by simp)
 have i:=xS f hs;have aB:=yc (β:=β) c (.box false x) w.heap.size 0;have ak:∀y,aG H y->aG (H.set base (.box false x)) y:=lT c (fun _ h=>h.elim);have l:=sO (cap:=0) b c (ob:=.cells a.cells T) (o':=.box false x)
  ⟨a.cells,T,by simp[Bd.at],bf.mono (fun _ x=>x) (fun k hk=>uX _ _ (b.bQ k hk)) aB _ _ e i,by
   simp only[cw,Bd.at,if_true,cx,if_false];exact⟨fun h=>h7 _ (b.bQ _ h),fun h=>h7 _ (b.dX _ h)⟩,by simp,hx⟩ (aC.mono ak _ e)
 refine⟨_,_,_,_,ad,g,.inl rfl,l,?_,?_⟩
 ·simp only[au,bK,bO,lH];exact⟨rfl,_,_,0,rfl,rfl,fun _=>by simp[Bd.at]⟩
 ·simp only[aC,lH];exact⟨.box false x,by simp only;rw[ht (hp.1 c).1],trivial⟩
theorem aC8{T:dg}{x:da}(a:o.op=.box T x)(hs:aa (ρ x)≠.bad)(hx:jg T (aa (ρ x))=true):bg P o ρ base {v:=.ptr base [],aQ:=[.box false (ρ x)]}:=by
 refine Vz (T:=T) hs hx fun H w ad ah β e f d=>?_;obtain⟨b,c⟩:=d x (by simp[a,gj]);refine⟨e x,b,c,?_⟩;simp only[dk,a];simp[Instr.box,newVar,newRow]
theorem Be{w:db}{ad:Nat->Prop}:∀(n:Nat)(T:dg)(cs:List c9)(t:PV),tC P n T cs=some t->aP P w ad t cs/\kindOf P T=aL t
 |0,_,_,_,h=>by simp[tC]at h
 |n+1,T,cs,t,h=>by
  have go:∀(b:List dg)(l:List Nat)(cs:List c9)(fs:List PV),o8 P (tC P n) b l cs=some fs->∃a,aY P w ad l fs a/\a.flatten=cs:=by
   intro b
   induction b with
   |nil=>
    intro l cs fs h;cases l with
    |nil=>
     cases cs with
     |nil=>simp[o8]at h;subst h;exact⟨[],by simp[aY]⟩
     |cons c cs=>simp[o8]at h
    |cons s i=>simp[o8]at h
   |cons T b q=>
    intro l cs fs h;cases l with
    |nil=>simp[o8]at h
    |cons s i=>
     simp only[o8]at h
     split at h
     case isFalse=>simp at h
     rename_i m
     split at h
     case h_2=>simp at h
     rename_i v vs g p
     split at h
     case isFalse=>simp at h
     rename_i r;simp at h;subst h;obtain⟨e,_⟩:=Be n T _ v g;obtain⟨a,f,j⟩:=q i _ vs p;refine⟨cs.take s::a,by simp only[aY];exact⟨_,_,rfl,e,m,f⟩,?_⟩;simp[j]
  unfold tC at h
  split at h
  ·rename_i hk
   split at h
   case h_2=>simp at h
   rename_i c
   split at h
   ·simp at h
   ·rename_i v o;simp at h;subst h;have g:=Ih (P:=P) (w:=w) (ad:=ad) c;have d:aL (ofConst c)=.leaf:=by
     unfold ofConst at o⊢
     split<;>simp_all [aL]
    exact⟨(sR d _).2 ⟨c,rfl,g⟩,by rw[hk,d]⟩
  ·rename_i u hk
   split at h
   case h_2=>simp at h
   rename_i l d
   split at h
   case h_2=>simp at h
   rename_i fs k;simp at h;subst h;obtain⟨a,e,f⟩:=go _ _ _ _ k;refine⟨by simp only[aP];exact⟨l,a,d,e,f.symm⟩,by simp[aL,hk]⟩
  ·simp at h
theorem oK{T:dg}{z:PV}(h:cH P T=some z):∃i a,P.info? T=some i/\i.zero=some a/\(∀(w:db)(ad:Nat->Prop),aP P w ad z a.cells.toList)/\kindOf P T=aL z:=by
 unfold cH at h;cases hi:P.info? T with
 |none=>simp[hi]at h
 |some i=>
  simp only[hi,iz]at h;cases b:i.zero with
  |none=>simp[b]at h
  |some a=>
   simp only[b]at h
   split at h
   case isFalse=>simp at h
   exact⟨i,a,rfl,b,fun w ad=>(Be 40 T _ z h).1,(Be (w:=default) (ad:=fun _=>True) 40 T _ z h).2⟩
theorem LP{T:dg}{z:PV}(h:cH P T=some z):∃a,(∀w:db,(zeroValue T).run P w=.ok a w)/\∀(w:db)(ad:Nat->Prop),aA P w ad z a:=by
 obtain⟨i,a,d,e,f,g⟩:=oK h;refine⟨a,fun w=>by simp[zeroValue,typeInfo,d,e],fun w ad=>?_⟩;have b:zw a (aL z)=true:=by
  unfold cH at h;simp only[d,iz,e]at h
  split at h
  ·rename_i j;rw[<-g];exact j
  ·simp at h
 have hc:=f w ad;cases hs:aL z with
 |bad=>exact((ny hc).2 hs).elim
 |leaf=>
  rw[hs]at b;obtain⟨c,k1,k2⟩:=(sR hs _).1 hc;cases a<;>simp[zw]at b<;>(simp[hm]at k1;subst k1;exact k2)
 |agg u=>
  rw[hs]at b;cases a<;>simp[zw]at b;have:=(vF hs _).1 hc;simpa[hm]using this
theorem sM{T:dg}{i:dq}{a:c9}(h:P.info? T=some i)(b:i.zero=some a)(w:db):(zeroValue T).run P w=.ok a w:=by
 simp[zeroValue,typeInfo,h,b]
theorem WO{T:dg}{z:PV}(j:o.op=.alloc T)(m:cH P T=some z)(hx:jg T (aL z)=true):bg P o ρ base {v:=.ptr base [],aQ:=[.box false (.p z)]}:=by
 obtain⟨i,b,d,e,f,q⟩:=oK m;intro H w ad ah β n a r _ g;have c:H[base]?=some .hole:=by simpa using g 0 (by simp)
 have l:(dk n o).run P w=.ok (.value (.pointer (some ⟨w.heap.size,0,none⟩))) {w with heap:=w.heap.push (.cells b.cells T)}:=by
  simp only[dk,j];simp[Instr.alloc,sM d e,newVar,newRow]
 have k:=sO (cap:=0) a c (ob:=.cells b.cells T) (o':=.box false (.p z))
  ⟨b.cells,T,by simp[Bd.at],by simp only[bf];exact f _ _,by
   simp only[cw,Bd.at,if_true,cx,if_false];exact⟨fun h=>h7 _ (a.bQ _ h),fun h=>h7 _ (a.dX _ h)⟩,by simp,by simpa[aa]using hx⟩ (by simp[Obj.refs,aC])
 refine⟨_,_,_,_,ad,l,.inl rfl,k,?_,?_⟩
 ·simp only[au,bK,bO,lH];exact⟨rfl,_,_,0,rfl,rfl,fun _=>by simp[Bd.at]⟩
 ·simp only[aC,lH];exact⟨.box false (.p z),by simp only;rw[ht (hp.1 c).1],trivial⟩
theorem CC{T:dg}{a:da}{v:AV}(h:o.op= .load T a){d:da->c9}{al off:Nat}{c:List c9}(g:d a= .pointer (some ⟨al,off,none⟩))(hk:kindOf P T=aa v)
 (i:bf P w ad β H v c)(hc:gM w al off c):∃b,(dk d o).run P w=.ok (.value b) w/\au P w ad β H v b:=by
 obtain⟨b,e,f⟩:=H5 hk i hc;refine⟨b,?_,f⟩;simp only[dk,h,Instr.loadAt,g,fV];simp[e]
theorem za{ai:Nat}{d:List AV}{g:List (List c9)}(h:Row P w ad β H ai d g){i:Nat}(hi:i<d.length):
 ∃a c post,g.flatten=a++c++post/\a.length=i*ai/\c.length=ai/\bf P w ad β H d[i] c/\
  ∀e c',bf P w ad β H e c'->c'.length=c.length->∃b,b.flatten=a++c'++post/\Row P w ad β H ai (d.set i e) b:=by
 obtain⟨a,c,post,j,k,o,f,l,m⟩:=s8 h (hy hi);have n:c.length=ai:=by
  rw[hA]at f;rw[if_pos hi]at f;simpa using f.symm
 refine⟨a,c,post,j,?_,n,l,?_⟩
 ·rw[k,hw,h6 (by omega),hv]
 ·intro e c' hf hc;obtain⟨b,k1,k2⟩:=m e c' hf hc;exact⟨b,k1,by unfold Row;rw[List.length_set];exact k2⟩
theorem aDo{T:dg}{a:da}(g:o.op= .load T a){H0:Heap}{K:aS->Prop}(h:nT P T H0 (ρ a) K):
 ∃e,K e/\bg P o ρ base e/\(∀p∈e.ak,H0[p.1]?=some p.2)/\(∀p∈e.aJ,p.1<H0.length/\p.2≠.hole):=by
 unfold nT at h
 split at h
 ·rename_i b J m
  split at h
  case h_2=>exact h.elim
  rename_i fz t u
  split at h
  case h_2=>exact h.elim
  rename_i s hs;obtain⟨hk,h⟩:=h;refine⟨_,h,bg.same fun H w ad ah β C j n ak=>?_,by simpa using u,by simp⟩;obtain⟨d,y⟩:=n a (by simp[g,gj]);rw[m]at d;simp only[au,bK,bO]at d;have f:H[b]?=some (.box fz t):=by simpa using ak
  obtain⟨_,E,I,B,x,r,d⟩:=d;obtain⟨rfl,rfl⟩:=d (.inl ⟨fz,t,f⟩);obtain⟨cs,D,k1,k2,k3,k4⟩:=j.cB b _ f;obtain⟨pre,xs,post,e1,e2,e3,_⟩:=pf k2 hs r;obtain⟨l,g1,g2⟩:=CC g x hk e3 (by rw[<-e2];exact lM k1 e1);exact⟨l,g1,g2,u9 hs (j.refs b _ f)⟩
 ·rename_i b ar ai i J m
  split at h
  case h_2=>exact h.elim
  rename_i k W S q u;obtain⟨rfl,rfl,hi,h⟩:=h
  split at h
  case h_2=>exact h.elim
  rename_i s hs;obtain⟨hk,h⟩:=h;refine⟨_,h,bg.same fun H w ad ah β C j n ak=>?_,by simpa using u,by simp⟩;obtain⟨d,y⟩:=n a (by simp[g,gj]);rw[m]at d;simp only[au,bK,bO]at d;have f:H[b]?=some (.arr k ar ai q):=by simpa using ak
  have A:¬cX k q:=fun G=>by rw[G.2]at hi;simp at hi
  obtain⟨_,E,I,B,x,r,d⟩:=d;obtain⟨rfl,rfl⟩:=d k q f A;rcases j.cB b _ f with hold|⟨cs,D,R,rest,k1,k2,k3,_⟩
  ·exact(A hold).elim
  obtain⟨M,c,L,N,O,U,Q,_⟩:=za k2 hi;obtain⟨pre,xs,post,e1,e2,e3,_⟩:=pf Q hs r;have F:gM w (β.al b) (i*ai+B) xs:=by
   have:cs.toList=(M++pre)++xs++(post++L++rest):=by rw[k3,N,e1];simp
   have z:=lM k1 this;rw[List.length_append,O,e2]at z;exact z
  obtain⟨l,g1,g2⟩:=CC g x hk e3 F;exact⟨l,g1,g2,u9 hs (cG.1 (j.refs b _ f) _ (hX hi))⟩
 ·rename_i t m;obtain⟨hk,h⟩:=h;refine⟨_,h,bg.same fun H w ad ah β C j n ak=>?_,by simp,by simp⟩;obtain⟨d,y⟩:=n a (by simp[g,gj]);rw[m]at d;simp only[au,aA]at d;obtain⟨al,off,V,k1,k2,k3,k4⟩:=d;obtain⟨l,g1,g2⟩:=CC (β:=β) (H:=H) (v:=.p t) g k4 (by simpa[aa]using hk) (by simpa only[bf]using k1) k3;exact⟨l,g1,g2,by simp[aC]⟩
 ·exact h.elim
end
section
variable{P:dl}{w:db}{ad ah:Nat->Prop}{β:Bd}{H:Heap}
mutual
theorem MP:∀{v:PV}{cs:List c9},aP P w ad v cs->∀c∈cs,c.oneCell'=true
 | .undef,_,h| .aE _,_,h=>by simp[aP]at h
 | .bool _,_,h| .int _ _,_,h| .dC,_,h| .aN,_,h| .fw,_,h| .gG,_,h| .fS,_,h=>by simp only[aP]at h;subst h;simp[hj]
 | .str _,_,h=>by simp only[aP]at h;obtain⟨_,rfl,_⟩:=h;simp[hj]
 | .ct _,_,h=>by simp only[aP]at h;obtain⟨_,_,_,_,_,_,rfl⟩:=h;simp[hj]
 | .bL _ _,_,h=>by simp only[aP]at h;obtain⟨_,_,_,_,_,_,_,_,_,_,_,_,rfl⟩:=h;simp[hj]
 | .seq _,_,h=>by simp only[aP]at h;rcases h with⟨_,rfl⟩|⟨_,_,_,_,_,_,_,_,_,_,_,rfl⟩<;>simp[hj]
 | .eJ _,_,h=>by simp only[aP]at h;obtain⟨_,_,_,_,_,_,rfl⟩:=h;simp[hj]
 | .func _ _ _,_,h=>by simp only[aP]at h;obtain⟨_,_,_,_,rfl⟩:=h;simp[hj]
 | .st u fs,_,h=>by
  simp only[aP]at h;obtain⟨l,a,b,d,rfl⟩:=h;exact LG d
theorem LG:∀{l:List Nat}{vs:List PV}{a:List (List c9)},aY P w ad l vs a->∀c∈a.flatten,c.oneCell'=true
 |[],[],_,h=>by simp only[aY]at h;subst h;simp
 |[],_::_,_,h=>by simp[aY]at h
 |_::_,[],_,h=>by simp[aY]at h
 |n::f,v::vs,a,h=>by
  simp only[aY]at h;obtain⟨c,cs,rfl,b,d,e⟩:=h;intro x hx;simp only[hB,hD]at hx;exact hx.elim (MP b x) (LG e x)
end
mutual
theorem yF:∀{v:AV}{cs:List c9},bf P w ad β H v cs->∀c∈cs,c.oneCell'=true
 | .p t,_,h=>by simp only[bf]at h;exact MP h
 | .ptr ..,_,h| .bV ..,_,h| .sl ..,_,h| .map ..,_,h=>by simp only[bf]at h;obtain⟨v,rfl,b,_⟩:=h;simpa using b
 | .func ..,_,h=>by simp only[bf]at h;obtain⟨_,_,_,_,rfl⟩:=h;simp[hj]
 | .aE _,_,h=>by simp[bf]at h
 | .st u fs,_,h=>by
  simp only[bf]at h;obtain⟨l,a,b,d,rfl⟩:=h;exact LH d
theorem LH:∀{l:List Nat}{vs:List AV}{a:List (List c9)},bJ P w ad β H l vs a->∀c∈a.flatten,c.oneCell'=true
 |[],[],_,h=>by simp only[bJ]at h;subst h;simp
 |[],_::_,_,h=>by simp[bJ]at h
 |_::_,[],_,h=>by simp[bJ]at h
 |n::f,v::vs,a,h=>by
  simp only[bJ]at h;obtain⟨c,cs,rfl,b,d,e⟩:=h;intro x hx;simp only[hB,hD]at hx;exact hx.elim (yF b x) (LH e x)
end
theorem qm(d:bP P w ad β H ah){b:Nat}{o o':Obj}(c:H[b]?=some o)(j:o.live)(l:o'.live)(m:∀v,o.has v->o'.has v){q new:Array c9}{T:dg}
 (i:w.heap[β.al b]?=some (.cells q T (0,0)))(e:¬ad (β.al b)/\¬ah (β.al b))(aB:b9 β H β (H.set b o'))
 (n:eZ P (w.setRow (β.al b) new) ad β (H.set b o') ah b o')(p:o'.refs (aG (H.set b o'))):
 bR P ah ad w β H ad (w.setRow (β.al b) new) β (H.set b o'):=by
 refine bR.set d (hp.1 c).1 (fun _ _=>⟨rfl,rfl⟩) (fun _ x=>x) (fun _ x=>.inl x) (fun k hk=>by rw[eq];exact d.bQ k hk) (by rw[eq];exact h5 _)
  (fun k hk _=>ei w _ k _ (hk.resolve_right (fun h=>h l))) (fun _=>.inr ⟨rfl,⟨o,c,j⟩,.inr e.1,e.2⟩) aB n p (fun r v a f=>by rw[c]at a;cases a;exact m v f) (fun L g=>by obtain⟨_,_,_,a,_⟩:=d.cB b _ g;rw[i]at a;cases a)
theorem oW{b:Nat}{o o':Obj}(l:H[b]?=some o)(hk:(∃f g t B,o= .box f t/\o'= .box g B)\/(∃k v z e m,o= .arr k v z e/\o'= .arr k v z m/\e.length=m.length)\/(∃f g e m,o= .map f e/\o'= .map g m)\/(∃s p y,o= .dt s p/\o'= .dt s y)):
 b9 β H β (H.set b o'):=by
 have u:b<H.length:=(hp.1 l).1;have j:∀x,x≠b->(H.set b o')[x]?=H[x]?:=fun x hx=>hF (Ne.symm hx);have i:(H.set b o')[b]?=some o':=ht u;refine⟨?_,?_,?_,?_,?_⟩
 ·rintro x _ ⟨fz,t,h⟩;refine⟨?_,rfl⟩
  by_cases hx:x=b
  ·subst hx;rw[i]at h;cases h;rcases hk with⟨f,g,t1,t2,c,a⟩|⟨_,_,_,_,_,_,a,_⟩|⟨_,_,_,_,_,a⟩|⟨_,_,_,_,a⟩
   ·exact⟨f,t1,by rw[l,c]⟩
   all_goals cases a
  ·rw[j x hx]at h;exact⟨fz,t,h⟩
 ·rintro x _ ⟨s,p,h⟩;refine⟨?_,rfl⟩
  by_cases hx:x=b
  ·subst hx;rw[i]at h;cases h;rcases hk with⟨f,g,t1,t2,c,a⟩|⟨_,_,_,_,_,_,a,_⟩|⟨_,_,_,_,_,a⟩|⟨s1,n,A,c,a⟩
   ·cases a
   ·cases a
   ·cases a
   ·exact⟨s1,n,by rw[l,c]⟩
  ·rw[j x hx]at h;exact⟨s,p,h⟩
 ·rintro x _ ⟨w,h,d⟩;refine⟨?_,rfl⟩
  by_cases hx:x=b
  ·subst hx;rw[i]at h;cases h;rcases hk with⟨f,g,t1,t2,c,a⟩|⟨_,_,_,_,_,_,a,_⟩|⟨f,g,e1,e2,c,a⟩|⟨s1,n,A,c,a⟩
   ·rw[a]at d;exact d.elim
   ·rw[a]at d;exact d.elim
   ·exact⟨o,l,by rw[c];trivial⟩
   ·rw[a]at d;exact d.elim
  ·rw[j x hx]at h;exact⟨w,h,d⟩
 ·intro x ar ai k e _ h
  by_cases hx:x=b
  ·subst hx;unfold eD at h⊢;rw[i]at h;cases h;rcases hk with⟨f,g,t1,t2,c,a⟩|⟨k0,v,z,q,C,c,a,r⟩|⟨_,_,_,_,_,a⟩|⟨_,_,_,_,a⟩
   ·cases a
   ·cases a;refine⟨k,q,by rw[l,c],by omega,?_,fun _=>⟨rfl,rfl⟩⟩;unfold cX;rw[<-hz,<-hz,r]
   ·cases a
   ·cases a
  ·unfold eD at h⊢;rw[j x hx]at h;exact⟨k,e,h,h5 _,Iff.rfl,fun _=>⟨rfl,rfl⟩⟩
 ·rintro x _ ⟨L,h⟩;refine⟨?_,rfl⟩
  by_cases hx:x=b
  ·subst hx;rw[i]at h;cases h;rcases hk with⟨f,g,t1,t2,c,a⟩|⟨_,_,_,_,_,_,a,_⟩|⟨_,_,_,_,_,a⟩|⟨_,_,_,_,a⟩<;>cases a
  ·rw[j x hx]at h;exact⟨L,h⟩
variable{o:Oper}{ρ:da->AV}{base:Nat}
theorem Jl{T:dg}{a x:da}(p:o.op= .store T a x){e:da->c9}{al off:Nat}{b:List c9}{d:Array c9}{f:dg}(j:e a= .pointer (some ⟨al,off,none⟩))
 (hx:(e x).cells.toList=b)(q:P.cellsOf T=b.length/\∃i,P.info? T=some i/\i.size=b.length)(k:w.heap[al]?=some (.cells d f (0,0)))(n:∀c∈b,c.oneCell'=true)(m:off+b.length<=d.size):
 (dk e o).run P w=.ok .skip (w.setRow al (d.toList.take off++b++d.toList.drop (off+b.length)).toArray):=by
 obtain⟨_,i,hi,l⟩:=q;have h:(sizeOf T).run P w=.ok b.length w:=by simp[sizeOf,typeInfo,hi,l]
 have g:=em (P:=P) al off f b 0 d w k (by simpa using m) n;simp only[h8]at g;have r:(e x).cells.size=b.length:=by rw[<-hx];simp
 simp only[dk,p,Instr.storeAt,j,fV];simp[storeVar,h,r,hx,g]
theorem BI(u:dg)(fs:List AV):aa (gW u fs)=.agg u:=by
 unfold gW;split<;>rfl
theorem Wc{t:AV}{c:List (dg×Nat)}{x s d:AV}(hs:eM t c=some s)(a:fO t c x=some d)(e:aa s=aa x):aa d=aa t:=by
 cases c with
 |nil=>
  simp only[fO,i0]at a;subst a;have:s=t:=by
   cases t<;>simp[eM]at hs<;>exact hs.symm
  rw[<-e,this]
 |cons p r=>
  obtain⟨u,i⟩:=p;cases t<;>simp only[fO]at a
  case p t=>
   split at a
   case isFalse=>simp at a
   rename_i b
   split at a
   case h_2=>simp at a
   split at a
   case h_2=>simp at a
   simp only[i0]at a;subst a;rw[BI];simp[aa,b]
  case st u' fs=>
   split at a
   case isFalse=>simp at a
   rename_i b
   split at a
   case h_2=>simp at a
   split at a
   case h_2=>simp at a
   simp only[i0]at a;subst a;rw[BI];simp[aa,b]
  all_goals simp at a
theorem Xv{T:dg}{a x:da}(z:o.op= .store T a x){H0:Heap}{K:aS->Prop}(h:nI P T H0 (ρ a) (ρ x) K):
 ∃e,K e/\bg P o ρ base e/\(∀p∈e.ak,H0[p.1]?=some p.2)/\(∀p∈e.aJ,p.1<H0.length/\p.2≠.hole):=by
 unfold nI at h;obtain⟨hk,ab,h⟩:=h
 split at h
 ·rename_i b ap N
  split at h
  case h_2=>exact h.elim
  rename_i t B
  split at h
  case h_2=>exact h.elim
  rename_i s j hs r;obtain⟨J,h⟩:=h;refine⟨_,h,?_,by simpa using B,by simpa using(hp.1 B).1⟩;intro H w ad ah β f l D ak _;have d:H[b]?=some (.box false t):=by simpa using ak
  obtain⟨g,_⟩:=D a (by simp[z,gj]);obtain⟨aa,M⟩:=D x (by simp[z,gj]);rw[N]at g;simp only[au,bK,bO]at g;obtain⟨_,al,Z,L,W,U,g⟩:=g;obtain⟨rfl,rfl⟩:=g (.inl ⟨false,t,d⟩);obtain⟨cs,A,k1,k2,k3,k4⟩:=l.cB b _ d;obtain⟨pre,xs,post,e1,e2,e3,e4⟩:=pf k2 hs U;have m:=xS aa ab;have q:(f x).cells.toList.length=xs.length:=by rw[(nD m).1,(nD e3).1,J]
  have ae:cs.size=pre.length+xs.length+post.length:=by
   have:=congrArg hK e1;simp at this;omega
  have C:=Jl z W rfl (xu hk m) k1 (yF m) (by omega);have aQ:(cs.toList.take Z++(f x).cells.toList++cs.toList.drop (Z+(f x).cells.toList.length))=pre++(f x).cells.toList++post:=by
   rw[e1,q,<-e2];simp
  rw[aQ]at C;have aB:b9 β H β (H.set b (.box false j)):=oW d (.inl ⟨_,_,_,_,rfl,rfl⟩);have Q:∀y,aG H y->aG (H.set b (.box false j)) y:=lT d (fun _ h=>h);have X:∀k,ad k->(w.setRow (β.al b) (pre++(f x).cells.toList++post).toArray).heap[k]?=w.heap[k]?:=fun k S=>ei w _ k _ (fun O=>k3.1 (O▸S));have V:=qm l d trivial (o':=.box false j) trivial (fun _ h=>h) k1 (new:=(pre++(f x).cells.toList++post).toArray) k3 aB
   ⟨_,A,ew w _ _ _ A _ k1,bf.mono (fun _ x=>x) X aB _ _ (vf r (l.refs b _ d) M) (e4 _ _ _ r m q),k3,by simp,by rw[Wc hs r J];exact k4.2⟩
   (aC.mono Q _ (vf r (l.refs b _ d) M))
  exact⟨_,_,_,β,ad,C,.inr ⟨rfl,rfl⟩,V,by simp[au,aA,bn,undef],by simp[aC]⟩
 ·rename_i b ar ai i ap N
  split at h
  case h_2=>exact h.elim
  rename_i k aE az n B;obtain⟨rfl,rfl,ag,hi,h⟩:=h
  split at h
  case h_2=>exact h.elim
  rename_i s j hs r;obtain⟨J,h⟩:=h;refine⟨_,h,?_,by simpa using B,by simpa using(hp.1 B).1⟩;intro H w ad ah β f l D ak _;have d:H[b]?=some (.arr k ar ai n):=by simpa using ak
  obtain⟨g,_⟩:=D a (by simp[z,gj]);obtain⟨aa,M⟩:=D x (by simp[z,gj]);rw[N]at g;simp only[au,bK,bO]at g;have I:¬cX k n:=fun G=>by rw[G.2]at hi;simp at hi
  obtain⟨_,al,Z,L,W,U,g⟩:=g;obtain⟨rfl,rfl⟩:=g k n d I;rcases l.cB b _ d with hold|⟨cs,A,ay,rest,k1,k2,k3,k4,k5,k6,k7,k8⟩
  ·exact(I hold).elim
  have af:¬ad (β.al b)/\¬ah (β.al b):=by
   unfold cw at k7;rw[if_neg (by simpa using ag)]at k7;exact k7
  obtain⟨u,c,F,aq,av,aD,aw,ax⟩:=za k2 hi;obtain⟨pre,xs,post,e1,e2,e3,e4⟩:=pf aw hs U;have m:=xS aa ab;have q:(f x).cells.toList.length=xs.length:=by rw[(nD m).1,(nD e3).1,J]
  have ac:cs.toList=(u++pre)++xs++(post++F++rest):=by rw[k3,aq,e1];simp
  have ae:cs.size=(u++pre).length+xs.length+(post++F++rest).length:=by
   have:=congrArg hK ac;simp at this⊢;omega
  have ao:(u++pre).length=i*ai+L:=by simp[av,e2]
  have C:=Jl z W rfl (xu hk m) k1 (yF m) (by omega);have aQ:(cs.toList.take (i*ai+L)++(f x).cells.toList++cs.toList.drop (i*ai+L+(f x).cells.toList.length))=(u++pre)++(f x).cells.toList++(post++F++rest):=by
   rw[ac,q,<-ao,hC (u++pre),List.take_left',List.drop_append,hC]
   ·simp
   ·rfl
  rw[aQ]at C;obtain⟨am,c1,c2⟩:=ax j _ (e4 _ _ _ r m q) (by rw[e1];simp[q]);have aB:b9 β H β (H.set b (.arr k ar ai (n.set i j))):=oW d (.inr (.inl ⟨_,_,_,_,_,rfl,rfl,by simp⟩));have Q:∀y,aG H y->aG (H.set b (.arr k ar ai (n.set i j))) y:=lT d (fun _ h=>h);have an:¬cX k (n.set i j):=fun G=>I ⟨G.1,by have:=G.2;rw[List.set_eq_nil_iff]at this;exact this⟩;have aj:aR (aG H) (n.set i j):=by
   rw[cG];intro v Y;rcases hL Y with Y|rfl
   ·exact cG.1 (l.refs b _ d) v Y
   ·exact vf r (cG.1 (l.refs b _ d) _ (hX hi)) M
  have X:∀E,ad E->(w.setRow (β.al b) ((u++pre)++(f x).cells.toList++(post++F++rest)).toArray).heap[E]?=w.heap[E]?:=fun E S=>ei w _ E _ (fun O=>af.1 (O▸S));have V:=qm l d I (o':=.arr k ar ai (n.set i j)) an (fun _ h=>h) k1 (new:=((u++pre)++(f x).cells.toList++(post++F++rest)).toArray) af aB
   (.inr ⟨_,A,am,rest,ew w _ _ _ A _ k1,bJ.mono (fun _ x=>x) X aB _ _ _ aj c2,by rw[c1];simp,by
    rw[<-k4,ae];simp[q];omega,by simpa using k5,fun R=>by rw[k6 R];simp,k7,(fun R=>(ag R).elim),k8.2⟩)
   (aR.mono Q _ aj)
  exact⟨_,_,_,β,ad,C,.inr ⟨rfl,rfl⟩,V,by simp[au,aA,bn,undef],by simp[aC]⟩
 ·exact h.elim
end
section
variable{P:dl}{w:db}{ad ah:Nat->Prop}{β:Bd}{H:Heap}
theorem A9(P:dl)(T:dg):P.underlying T=(P.info? (P.underlyingId T)).map (fun i:dq=>i.desc):=by
 unfold gA g0;cases hi:P.info? T with
 |none=>simp[hi]
 |some i=>
  obtain⟨d,_,_,_,_,_,_,_,_,_⟩:=i;cases d<;>simp[hi]
theorem Bq{T u:dg}(h:kindOf P T=.agg u):u=P.underlyingId T/\(∃l,dD P u=some l)/\P.cellsOf T=P.cellsOf u:=by
 unfold kindOf at h
 split at h
 ·split at h
  ·rename_i hc;simp at h;subst h;simp at hc;exact⟨rfl,ip.1 hc.1,hc.2⟩
  ·simp at h
 ·split at h
  ·rename_i hc;simp at h;subst h;simp at hc;exact⟨rfl,ip.1 hc.1,hc.2⟩
  ·simp at h
 ·split at h<;>simp at h
 ·simp at h
theorem uP{T u:dg}{n:Nat}(h:fQ P T=some (u,n)):∃fs l,P.underlying T=some (.struct fs)/\fs.size=n/\kindOf P T= .agg u/\dD P u=some l/\l.length=n/\
 ∀(i:Nat)(_hi:i<n),∃f,fs[i]?=some f/\f.offset=(l.take i).sum/\l[i]?=some (P.cellsOf f.type)/\0<P.cellsOf f.type/\(jm P u)[i]?=some f.type:=by
 unfold fQ at h
 split at h
 case h_2=>simp at h
 rename_i u' fs hk c;simp at h;obtain⟨rfl,rfl⟩:=h;obtain⟨g,⟨l,a⟩,_⟩:=Bq hk;refine⟨fs,l,c,rfl,hk,a,?_⟩;have b:(P.info? u').map (fun i:dq=>i.desc)=some (.struct fs):=by rw[g,<-A9,c]
 unfold dD at a;rw[b]at a;dsimp only at a
 split at a
 case isFalse=>simp at a
 rename_i hc;simp at a;simp only[cy,hZ,decide_eq_true_eq,beq_iff_eq]at hc;obtain⟨⟨d,j⟩,e⟩:=hc;subst a;refine⟨by simp,fun i hi=>?_⟩;refine⟨fs[i],by simp[hi],?_,by simp[hi],?_,?_⟩
 ·have:=e (fs[i],i) (by rw[List.mem_iff_getElem?];exact⟨i,by simp[hi]⟩);simpa using this
 ·have:=d (P.cellsOf fs[i].type) (by simp;exact⟨fs[i],by simp,rfl⟩);exact this
 ·unfold jm;rw[b];simp[hi]
theorem sT{T u:dg}{n:Nat}(h:gh P T=some (u,n)):∃e,P.underlying T=some (.array n e)/\kindOf P T=.agg u/\dD P u=some (hr n (P.cellsOf e))/\0<P.cellsOf e:=by
 unfold gh at h
 split at h
 case h_2=>simp at h
 rename_i u' g e hk b;simp at h;obtain⟨rfl,rfl⟩:=h;obtain⟨d,⟨l,a⟩,_⟩:=Bq hk;have c:(P.info? u').map (fun i:dq=>i.desc)=some (.array g e):=by rw[d,<-A9,b]
 have f:=a;unfold dD at a;rw[c]at a;dsimp only at a
 split at a
 case isFalse=>simp at a
 rename_i hc;simp at a hc;exact⟨e,b,hk,by rw[f,a],hc.1⟩
theorem xw{p q:List (dg×Nat)}{a b:Nat}(c:fY P p=some a)(f:fY P q=some b):fY P (p++q)=some (a+b):=by
 induction p generalizing a with
 |nil=>simp[fY]at c;subst c;simpa using f
 |cons x p g=>
  obtain⟨u,i⟩:=x;simp only[fY]at c;cases d:dD P u with
  |none=>simp[d]at c
  |some l=>
   cases e:fY P p with
   |none=>simp[d,e]at c
   |some a'=>
    simp[d,e]at c;obtain⟨hi,rfl⟩:=c;simp only[List.cons_append,fY,d,g e,if_pos hi];congr 1;omega
theorem xC{u:dg}{i:Nat}{l:List Nat}(a:dD P u=some l)(hi:i<l.length):fY P [(u,i)]=some (l.take i).sum:=by
 simp[fY,a,hi]
variable{o:Oper}{ρ:da->AV}{base:Nat}
theorem kj(al off n:Nat):(⟨al,off,none⟩:Addr).add n=⟨al,off+n,none⟩:=by unfold Addr.add;split<;>simp_all
theorem Tb{T:dg}{a:da}{f:Nat}(v:o.op= .fieldAddr T a f){K:aS->Prop}(h:nw P T (ρ a) f K):
 ∃e,K e/\bg P o ρ base e/\e.ak=[]/\e.aJ=[]:=by
 unfold nw at h
 split at h
 case h_2=>exact h.elim
 rename_i u n aB;obtain⟨hf,h⟩:=h;obtain⟨fs,l,L,x,hk,G,O,E⟩:=uP aB;obtain⟨fd,g1,g2,g3,g4,g5⟩:=E f hf;have z:=xC G (by omega:f<l.length);have B:∀(w:db)(d:da->c9)(al off:Nat),d a=.pointer (some ⟨al,off,none⟩)->(dk d o).run P w=.ok (.value (.pointer (some ⟨al,off+(l.take f).sum,none⟩))) w:=by
  intro w d al off m;obtain⟨i,hi⟩:∃i,P.info? fd.type=some i:=by
   cases hi:P.info? fd.type with
   |none=>simp[gy,hi]at g4
   |some i=>exact⟨i,rfl⟩
  have J:(sizeOf fd.type).run P w=.ok (P.cellsOf fd.type) w:=by simp[sizeOf,typeInfo,hi,gy]
  simp only[dk,v];refine er ?_;have I:¬P.cellsOf fd.type=0:=by omega
  simp[Instr.fieldAt,c6 L,g1,m,fV,fieldPlace,J,I,kj,g2]
 split at h
 ·rename_i b N m;refine⟨_,h,bg.same fun H w ad ah β d D r _=>?_,rfl,rfl⟩;obtain⟨c,j⟩:=r a (by simp[v,gj]);rw[m]at c j;simp only[au,bK,bO,aC]at c j;obtain⟨_,al,off,M,A,y,p⟩:=c;refine⟨_,B w d _ _ A,?_,by simpa[aC]using j⟩;simp only[au,bK,bO];exact⟨rfl,_,_,_,rfl,xw y z,fun q=>⟨(p q).1,by rw[(p q).2]⟩⟩
 ·rename_i b ar ai i N m;refine⟨_,h,bg.same fun H w ad ah β d D r _=>?_,rfl,rfl⟩;obtain⟨c,j⟩:=r a (by simp[v,gj]);rw[m]at c j;simp only[au,bK,bO,aC]at c j;obtain⟨_,al,off,M,A,y,p⟩:=c;refine⟨_,B w d _ _ A,?_,by simpa[aC]using j⟩;simp only[au,bK,bO];exact⟨rfl,_,_,_,rfl,xw y z,fun k C q x=>⟨(p k C q x).1,by rw[(p k C q x).2];omega⟩⟩
 ·rename_i t m;obtain⟨hs,h⟩:=h
  split at h
  case h_2=>exact h.elim
  rename_i g F;refine⟨_,h,?_,rfl,rfl⟩;refine bg.same fun H w ad ah β d D r _=>?_;obtain⟨c,_⟩:=r a (by simp[v,gj]);rw[m]at c;simp only[au,aA]at c;obtain⟨al,off,Q,k1,k2,k3,k4⟩:=c;refine⟨_,B w d _ _ k4,?_,by simp[aC]⟩;obtain⟨pre,xs,post,e1,e2,e3⟩:=yr (path:=[(u,f)]) (s:=g) k1 (by simp[kT,hs,F]) z;simp only[au,aA];refine⟨al,off+(l.take f).sum,xs,e3,k2,?_,rfl⟩;intro i hi;have:=k3 (pre.length+i) (by rw[e1];simp;omega);rw[<-e2,ii,this];congr 1;simp only[e1,hC];rw[hM (by omega)];simp only[h9];rw[hN hi]
 ·exact h.elim
end
section
variable{P:dl}{w:db}{ad ah:Nat->Prop}{β:Bd}{H:Heap}
variable{o:Oper}{ρ:da->AV}{base:Nat}
theorem sD{al off:Nat}{a pre xs post:List c9}(h:gM w al off a)(e:a=pre++xs++post):gM w al (off+pre.length) xs:=by
 intro i hi;have:=h (pre.length+i) (by rw[e];simp;omega);rw[ii,this];congr 1;simp only[e,hC];rw[hM (by omega)];simp only[h9];rw[hN hi]
structure qq(P:dl)(T:dg)(sz:Nat)(e:dg)(i:dq):Prop where
 gv:P.underlying T=some (.slice e)
 info:P.info? e=some i
 size:i.size=sz
 pos:0<sz
 bytes:i.bytes<32768
 aHW:0<i.bytes
 pZ:et P T=e
theorem j0{T:dg}{sz:Nat}(h:cL P T=some sz):∃e i,qq P T sz e i:=by
 unfold cL at h
 split at h
 case h_2=>simp at h
 rename_i e a
 split at h
 case h_2=>simp at h
 rename_i i hi
 split at h
 case isFalse=>simp at h
 rename_i hc;simp at h;subst h;exact⟨e,i,a,hi,rfl,hc.2.1,hc.1,hc.2.2,by simp[et,a]⟩
theorem qq.run{T:dg}{sz:Nat}{e:dg}{i:dq}(h:qq P T sz e i)(w:db):(sizeOf e).run P w=.ok sz w:=by
 simp[sizeOf,typeInfo,h.info,h.size]
theorem Ta{T:dg}{x S:da}(B:o.op= .indexAddr T x S){H0:Heap}{K:aS->Prop}(h:nv P T H0 (ρ x) (ρ S) K):
 ∃e,K e/\bg P o ρ base e/\(∀p∈e.ak,H0[p.1]?=some p.2)/\e.aJ=[]:=by
 unfold nv at h
 split at h
 case h_2=>exact h.elim
 rename_i av n an;obtain⟨C,h⟩:=h;have E:x∈o.op.operands:=by simp[B,gj]
 have ao:S∈o.op.operands:=by simp[B,gj]
 have D:∀{H:Heap}{w:db}{ad:Nat->Prop}{β:Bd}{z:da->c9},(∀y∈o.op.operands,au P w ad β H (ρ y) (z y)/\aC (aG H) (ρ y))->z S=.int av n:=by
  intro H w ad β z f;have:=(f S ao).1;rw[an]at this;simpa[au,aA]using this
 split at h
 ·
  rename_i full d hx;obtain⟨j,r,h⟩:=h;obtain⟨e,aj,A⟩:=j0 r;refine⟨_,h,bg.same fun H w ad ah β z O f _=>?_,by simp,rfl⟩;obtain⟨a,_⟩:=f x E;rw[hx]at a;simp only[au,aA]at a;obtain⟨al,off,cap,ai,V,k1,k2,k3,k4,k5,sp,ab,k6⟩:=a;obtain rfl:sp=none:=ab.resolve_right (by omega);have aa:Row P w ad ⟨id,id⟩ [] ai (d.map .p) V:=lS.2 k1;obtain⟨pre,c,post,ac,ae,af,U,_⟩:=za aa (i:=n.toNat) (by simpa using j);have M:aP P w ad d[n.toNat] c:=by
   have:(d.map AV.p)[n.toNat]'(by simpa using j)=.p d[n.toNat]:=by simp
   rw[this]at U;simpa only[bf]using U
  have X:bD P (aL d[n.toNat])=ai:=by rw[<-(ny M).1,af]
  refine⟨.pointer (some ⟨al,off+n.toNat*ai,none⟩),?_,?_,by simp[aC]⟩
  ·simp only[dk,B];refine er ?_;have q:n<(d.length:Int):=by omega
   simp[gc,D f,asIntOf,c6 A.gv,k6,C,q,A.run,X,kj]
  ·simp only[au,aA];refine⟨al,off+n.toNat*ai,c,M,k2 (by intro F;rw[F]at j;simp at j),?_,rfl⟩;rw[<-ae];exact sD k3 ac
 ·
  rename_i d hx;obtain⟨j,r,h⟩:=h;obtain⟨e,aj,A⟩:=j0 r;refine⟨_,h,bg.same fun H w ad ah β z O f _=>?_,by simp,rfl⟩;obtain⟨a,_⟩:=f x E;rw[hx]at a;simp only[au,aA]at a;rcases a with⟨rfl,_⟩|⟨al,off,cap,ai,V,k1,k2,k3,k5,sp,ab,k6⟩
  ·simp at j
  obtain rfl:sp=none:=ab.resolve_right (by omega);have aa:Row P w ad ⟨id,id⟩ [] ai (d.map .p) V:=lS.2 k1;obtain⟨pre,c,post,ac,ae,af,U,_⟩:=za aa (i:=n.toNat) (by simpa using j);have M:aP P w ad d[n.toNat] c:=by
   have:(d.map AV.p)[n.toNat]'(by simpa using j)=.p d[n.toNat]:=by simp
   rw[this]at U;simpa only[bf]using U
  have X:bD P (aL d[n.toNat])=ai:=by rw[<-(ny M).1,af]
  refine⟨.pointer (some ⟨al,off+n.toNat*ai,none⟩),?_,?_,by simp[aC]⟩
  ·simp only[dk,B];refine er ?_;have q:n<(d.length:Int):=by omega
   simp[gc,D f,asIntOf,c6 A.gv,k6,C,q,A.run,X,kj]
  ·simp only[au,aA];refine⟨al,off+n.toNat*ai,c,M,k2 (by intro F;rw[F]at j;simp at j),?_,rfl⟩;rw[<-ae];exact sD k3 ac
 ·
  rename_i b ar ai off len hx;obtain⟨r,j,h⟩:=h;obtain⟨e,aj,A⟩:=j0 r
  split at h
  case h_2=>exact h.elim
  rename_i k aF az d aq;obtain⟨rfl,rfl,ap,h⟩:=h;refine⟨_,h,bg.same fun H w ad ah β z O f ak=>?_,by simpa using aq,rfl⟩;obtain⟨a,l⟩:=f x E;rw[hx]at a l;simp only[au,bK,bO,aC]at a l;have ag:H[b]?=some (.arr k ar ai d):=by simpa using ak
  obtain⟨g1,g2,W⟩:=a.2 k d ag;have W:=W ap;refine⟨.pointer (some ⟨β.al b,off*ai+n.toNat*ai,none⟩),?_,?_,by simpa[aC]using l⟩
  ·simp only[dk,B];refine er ?_;have q:n<(len:Int):=by omega
   simp[gc,D f,asIntOf,c6 A.gv,W,C,q,A.run,kj]
  ·simp only[au,bK,bO];refine⟨rfl,_,_,0,rfl,rfl,fun aD ay v aB=>?_⟩;unfold eD at v;rw[ag]at v;cases v;exact⟨rfl,by rw[ik];simp⟩
 ·
  rename_i b ax hx
  split at h
  case h_2=>exact h.elim
  rename_i u m G;obtain⟨j,h⟩:=h;obtain⟨e,R,hk,I,N⟩:=sT G;refine⟨_,h,bg.same fun H w ad ah β z O f _=>?_,by simp,rfl⟩;obtain⟨a,l⟩:=f x E;rw[hx]at a l;simp only[au,bK,bO,aC]at a l;obtain⟨_,al,off,aw,Z,Y,v⟩:=a;have L:=xC I (i:=n.toNat) (by simpa using j);have Q:((hr m (P.cellsOf e)).take n.toNat).sum=n.toNat*P.cellsOf e:=by rw[hw,h6 (by omega),hv]
  have r:(sizeOf e).run P w=.ok (P.cellsOf e) w:=by
   cases hi:P.info? e with
   |none=>simp[gy,hi]at N
   |some i=>simp[sizeOf,typeInfo,hi,gy]
  refine⟨.pointer (some ⟨al,off+n.toNat*P.cellsOf e,none⟩),?_,?_,by simpa[aC]using l⟩
  ·simp only[dk,B];refine er ?_;have q:n<(m:Int):=by omega
   simp[gc,D f,asIntOf,c6 R,Z,fV,C,q,r,kj]
  ·simp only[au,bK,bO];exact⟨rfl,_,_,_,rfl,xw Y L,fun J=>⟨(v J).1,by rw[(v J).2,Q]⟩⟩
 ·rename_i b ar ai i ax hx
  split at h
  case h_2=>exact h.elim
  rename_i u m G;obtain⟨j,h⟩:=h;obtain⟨e,R,hk,I,N⟩:=sT G;refine⟨_,h,bg.same fun H w ad ah β z O f _=>?_,by simp,rfl⟩;obtain⟨a,l⟩:=f x E;rw[hx]at a l;simp only[au,bK,bO,aC]at a l;obtain⟨_,al,off,aw,Z,Y,v⟩:=a;have L:=xC I (i:=n.toNat) (by simpa using j);have Q:((hr m (P.cellsOf e)).take n.toNat).sum=n.toNat*P.cellsOf e:=by rw[hw,h6 (by omega),hv]
  have r:(sizeOf e).run P w=.ok (P.cellsOf e) w:=by
   cases hi:P.info? e with
   |none=>simp[gy,hi]at N
   |some i=>simp[sizeOf,typeInfo,hi,gy]
  refine⟨.pointer (some ⟨al,off+n.toNat*P.cellsOf e,none⟩),?_,?_,by simpa[aC]using l⟩
  ·simp only[dk,B];refine er ?_;have q:n<(m:Int):=by omega
   simp[gc,D f,asIntOf,c6 R,Z,fV,C,q,r,kj]
  ·simp only[au,bK,bO];exact⟨rfl,_,_,_,rfl,xw Y L,fun k d J F=>⟨(v k d J F).1,by rw[(v k d J F).2,Q];omega⟩⟩
 ·rename_i t hx
  split at h
  case h_2=>exact h.elim
  rename_i u m G;obtain⟨hs,j,h⟩:=h
  split at h
  case h_2=>exact h.elim
  rename_i g am;obtain⟨e,R,hk,I,N⟩:=sT G;refine⟨_,h,bg.same fun H w ad ah β z O f _=>?_,by simp,rfl⟩;obtain⟨a,_⟩:=f x E;rw[hx]at a;simp only[au,aA]at a;obtain⟨al,off,aE,k1,k2,k3,k4⟩:=a;have L:=xC I (i:=n.toNat) (by simpa using j);have Q:((hr m (P.cellsOf e)).take n.toNat).sum=n.toNat*P.cellsOf e:=by rw[hw,h6 (by omega),hv]
  have r:(sizeOf e).run P w=.ok (P.cellsOf e) w:=by
   cases hi:P.info? e with
   |none=>simp[gy,hi]at N
   |some i=>simp[sizeOf,typeInfo,hi,gy]
  obtain⟨pre,xs,post,e1,e2,e3⟩:=yr (path:=[(u,n.toNat)]) (s:=g) k1 (by simp[kT,hs,am]) L;refine⟨.pointer (some ⟨al,off+n.toNat*P.cellsOf e,none⟩),?_,?_,by simp[aC]⟩
  ·simp only[dk,B];refine er ?_;have q:n<(m:Int):=by omega
   simp[gc,D f,asIntOf,c6 R,k4,fV,C,q,r,kj]
  ·simp only[au,aA];refine⟨al,_,xs,e3,k2,?_,rfl⟩;rw[<-Q,<-e2];exact sD k3 e1
 ·exact h.elim
theorem aF3{bs:ByteArray}{s:List Nat}(h:s=bs.data.toList.map (·.toNat)){i:Nat}(hi:i<s.length):∃b:UInt8,bs[i]?=some b/\b.toNat=s[i]:=by
 subst h;have a:i<bs.size:=by simpa using hi
 refine⟨bs[i],by simp[a],?_⟩;simp only[List.getElem_map,cc];rfl
theorem Uc{T:dg}{x f:da}{s:List Nat}{k:en}{n:Int}(e:o.op= .index T x f)(hx:ρ x= .p (.str s))(hi:ρ f= .p (.int k n))(d:im P T=true)(i:0<=n)(g:n.toNat<s.length):
 bg P o ρ base {v:=.p (.int .u8 (s[n.toNat]'g))}:=by
 refine bg.same fun H w ad ah β m l h _=>?_;have a:=(h x (by simp[e,gj])).1;have c:=(h f (by simp[e,gj])).1;rw[hx]at a;rw[hi]at c;simp only[au,aA]at a c;obtain⟨bs,e1,e2⟩:=a;obtain⟨b,g1,g2⟩:=aF3 e2 g;have j:P.underlying T=some .string:=by
  unfold im at d
  split at d
  ·assumption
  ·simp at d
 refine⟨.int .u8 b.toNat,?_,by simp[au,aA,g2],by simp[aC]⟩;simp only[dk,e,e1,c];refine er ?_;simp[Instr.index,asIntOf,c6 j,i,g1]
theorem Ux{S D:dg}{x:da}{k k0:en}{n:Int}(b:o.op= .convert S D x)(e:∃d,P.underlying S=some d)(c:P.underlying D=some (.int k))(hx:ρ x= .p (.int k0 n)):
 bg P o ρ base {v:=.p (.int k (k.wrap n))}:=by
 refine bg.same fun H w ad ah β i h g _=>?_;have a:=(g x (by simp[b,gj])).1;rw[hx]at a;simp only[au,aA]at a;obtain⟨d,f⟩:=e;refine⟨.int k (k.wrap n),?_,by simp[au,aA],by simp[aC]⟩;simp only[dk,b,a];refine er ?_;simp[convert,c6 f,c6 c,Conv.intToInt]
theorem Uw{S D:dg}{x:da}{s:List Nat}(b:o.op= .convert S D x)(e:∃d,P.underlying S=some d)(c:P.underlying D=some .string)(hx:ρ x= .p (.str s)):
 bg P o ρ base {v:=.p (.str s)}:=by
 refine bg.same fun H w ad ah β i h g _=>?_;have a:=(g x (by simp[b,gj])).1;rw[hx]at a;simp only[au,aA]at a;obtain⟨bs,e1,e2⟩:=a;obtain⟨d,f⟩:=e;refine⟨.string bs,?_,by simp only[au,aA];exact⟨bs,rfl,e2⟩,by simp[aC]⟩;simp only[dk,b,e1];refine er ?_;simp only[convert,g9,c6 f,c6 c,g8];cases d<;>simp
theorem Vi{b ar ai off len:Nat}{k:AK}{d:List AV}{v:c9}(h:au P w ad β H (.sl b ar ai off len) v)(j:H[b]?=some (.arr k ar ai d)):∃a c,v=.slice a len c:=by
 simp only[au,bK,bO]at h;obtain⟨f,g,i⟩:=h.2 k d j
 by_cases e:cX k d
 ·rw[g e];have:len=0:=by rw[e.2]at f;simp at f;omega
  subst this;exact⟨_,_,rfl⟩
 ·exact⟨_,_,i e⟩
theorem Bx:∀{b:List (PV×PV)}{a:List MapEntry},cz P w ad b a->a.length=b.length
 |[],a,h=>by simp only[cz]at h;subst h;rfl
 |(k,v)::r,a,h=>by
  simp only[cz]at h;obtain⟨e,rest,rfl,d,f,c⟩:=h;simp[Bx c]
theorem aDn{c:Call}{x:da}{n:Nat}{ak:List (Nat×Obj)}{H0:Heap}(G:o.op= .call c)(hc:c.callee= .builtin .len)(E:c.args.toList=[x])(i:lenOf H0 (ρ x)=some (n,ak))(d:gS P (c.argTypes.getD 0 0) (ρ x)=true)(O:0<c.argTypes.size):
 bg P o ρ base {v:=.p (.int .i64 n),ak}/\(∀p∈ak,H0[p.1]?=some p.2):=by
 have u:x∈o.op.operands:=by
  rw[G];simp only[gj,Call.operands,hc];simp;rw[<-b1,E];simp
 have J:c.args=#[x]:=by apply b2;simpa using E
 have q:c.argTypes[0]?=some (c.argTypes.getD 0 0):=by simp[cv,O]
 have t:∀{H:Heap}{w:db}{ad:Nat->Prop}{β:Bd}{m:da->c9},((e7 c.argTypes o.type #[m x]).run P w= .ok (goInt n) w)->
  ∃D,(dk m o).run P w=.ok (.value D) w/\au P w ad β H (.p (.int .i64 n)) D/\aC (aG H) (.p (.int .i64 n)):=by
  intro H w ad β m L;refine⟨goInt n,?_,by simp[au,aA,goInt],by simp[aC]⟩;simp only[dk,G,resolve,hc,J];simp[invoke,builtin,L]
 have N:∀T:dg,im P T=true->P.underlying T=some .string:=by
  intro T h;unfold im at h
  split at h
  ·assumption
  ·simp at h
 generalize R:c.argTypes.getD 0 0=T at*;unfold lenOf at i
 split at i
 ·rename_i s hx;simp at i;obtain⟨rfl,rfl⟩:=i;rw[hx]at d;simp only[gS]at d;refine⟨bg.same fun H w ad ah β m y j _=>t ?_,by simp⟩;have g:=(j x u).1;rw[hx]at g;simp only[au,aA]at g;obtain⟨bs,e1,e2⟩:=g;have hs:s.length=bs.size:=by rw[e2];simp
  simp[e7,q,c6 (N _ d),e1,hs]
 ·rename_i hx;simp at i;obtain⟨rfl,rfl⟩:=i;rw[hx]at d;refine⟨bg.same fun H w ad ah β m y j _=>t ?_,by simp⟩;have g:=(j x u).1;rw[hx]at g;simp only[au,aA]at g;simp only[gS]at d
  split at d
  ·rename_i e l;simp[e7,q,c6 l,g]
  ·simp at d
 ·rename_i hx;simp at i;obtain⟨rfl,rfl⟩:=i;rw[hx]at d;refine⟨bg.same fun H w ad ah β m y j _=>t ?_,by simp⟩;have g:=(j x u).1;rw[hx]at g;simp only[au,aA]at g;simp only[gS]at d
  split at d
  ·rename_i k e l;simp[e7,q,c6 l,g]
  ·simp at d
 ·rename_i f z hx;simp at i;obtain⟨rfl,rfl⟩:=i;rw[hx]at d;refine⟨bg.same fun H w ad ah β m y j _=>t ?_,by simp⟩;have g:=(j x u).1;rw[hx]at g;simp only[au,aA]at g;obtain⟨al,off,cap,ai,I,k1,k2,k3,k4,k5,sp,M,k6⟩:=g;simp only[gS]at d
  split at d
  ·rename_i e l;simp[e7,q,c6 l,k6]
  ·simp at d
 ·rename_i z hx;simp at i;obtain⟨rfl,rfl⟩:=i;rw[hx]at d;refine⟨bg.same fun H w ad ah β m y j _=>t ?_,by simp⟩;have g:=(j x u).1;rw[hx]at g;simp only[au,aA]at g;simp only[gS]at d
  split at d
  ·rename_i e l;rcases g with⟨rfl,k6⟩|⟨al,off,cap,ai,I,k1,k2,k3,k5,sp,M,k6⟩
   ·simp[e7,q,c6 l,k6]
   ·simp[e7,q,c6 l,k6]
  ·simp at d
 ·rename_i z hx;simp at i;obtain⟨rfl,rfl⟩:=i;rw[hx]at d;refine⟨bg.same fun H w ad ah β m y j _=>t ?_,by simp⟩;have g:=(j x u).1;rw[hx]at g;simp only[au,aA]at g;obtain⟨r,A,clock,k1,k2,k3,k4⟩:=g;simp only[gS]at d
  split at d
  ·rename_i k e l;have:=Bx k3;have B:(getObj r).run P w=.ok (.map A clock) w:=by simp[getObj,hd,k2]
   simp at this;simp[e7,q,c6 l,k4,B,this]
  ·simp at d
 ·rename_i b ar ai off len hx
  split at i
  case h_2=>simp at i
  rename_i k S Q z C
  split at i
  case isFalse=>simp at i
  rename_i K;obtain⟨rfl,rfl⟩:=K;simp at i;obtain⟨rfl,rfl⟩:=i;rw[hx]at d;refine⟨bg.same fun H w ad ah β m y j ak=>t ?_,by simpa using C⟩;have g:=(j x u).1;rw[hx]at g;obtain⟨a,cp,e1⟩:=Vi g (by simpa using ak);simp only[gS]at d
  split at d
  ·rename_i e l;simp[e7,q,c6 l,e1]
  ·simp at d
 ·rename_i b hx
  split at i
  case h_2=>simp at i
  rename_i fz z C;simp at i;obtain⟨rfl,rfl⟩:=i;rw[hx]at d;refine⟨bg.same fun H w ad ah β m y j ak=>t ?_,by simpa using C⟩;have g:=(j x u).1;rw[hx]at g;simp only[au,bK,bO]at g;have F:H[b]?=some (.map fz z):=by simpa using ak
  obtain⟨A,clock,k2,k3,_⟩:=y.cB b _ F;have e1:=g.2.1 ⟨_,F,trivial⟩;simp only[gS]at d
  split at d
  ·rename_i k e l;have:=Bx k3;have B:(getObj (β.al b)).run P w=.ok (.map A clock) w:=by simp[getObj,hd,k2]
   simp at this;simp[e7,q,c6 l,e1,B,this]
  ·simp at d
 ·simp at i
end
section
variable{P:dl}{w:db}{ad ah:Nat->Prop}{β:Bd}{H:Heap}
variable{o:Oper}{ρ:da->AV}{base:Nat}
theorem KZ:∀(a:List c9)(off j:Nat)(cells:Array c9),off+j+a.length<=cells.size->
 ((a.zipIdx j).foldl (fun cs(p:c9×Nat)=>cs.setIfInBounds (off+p.2) p.1) cells).toList=cells.toList.take (off+j)++a++cells.toList.drop (off+j+a.length)
 |[],off,j,cells,_=>by simp
 |x::a,off,j,cells,h=>by
  simp only[List.zipIdx_cons,List.foldl_cons];rw[KZ a off (j+1) _ (by simp at h⊢;omega)];simp only[Array.toList_setIfInBounds,hW];have d:off+j<cells.toList.length:=by simp at h⊢;omega
  rw[show off+(j+1)=off+j+1 by omega];have b:(cells.toList.set (off+j) x).take (off+j+1)=cells.toList.take (off+j)++[x]:=by
   rw[List.take_succ_eq_append_getElem (by simpa using d)];rw[List.take_set_of_le (h5 _)];simp
  have c:(cells.toList.set (off+j) x).drop (off+j+1+a.length)=cells.toList.drop (off+j+(a.length+1)):=by
   rw[List.drop_set_of_lt (by omega)];congr 1;omega
  rw[b,c];simp
theorem Tu{a c post b:List c9}(h:b.length=c.length):((a++c++post).take a.length++b++(a++c++post).drop (a.length+b.length))=a++b++post:=by
 rw[h];simp
theorem Bv{l:List Nat}{place:Nat->Option (Nat×Nat)}(s:∀i n,l[i]?=some n->place i=some ((l.take i).sum,n)):
 ∀{f:List (Nat×AV)}{j:List (Nat×c9)}{fs:List AV}{e:List (List c9)}{cells:Array c9},j.map i3=f.map i3->(∀i:Nat,au P w ad β H (((f[i]?).map i2).getD (.p .undef)) (((j[i]?).map i2).getD undef))->
  lP P l f->bJ P w ad β H l fs e->cells.toList=e.flatten->
  ∃g m,gg place cells j=some g/\bJ P w ad β H l (il fs f) m/\g.toList=m.flatten
 |[],[],fs,e,cells,_,_,_,h,hc=>⟨cells,e,rfl,h,hc⟩
 |[],_::_,_,_,_,b,_,_,_,_=>by simp at b
 |_::_,[],_,_,_,b,_,_,_,_=>by simp at b
 |(i,a)::f,(d,v)::j,fs,e,cells,b,t,o,h,hc=>by
  simp only[h3,List.cons.injEq]at b;obtain⟨rfl,b⟩:=b;simp only[lP]at o;obtain⟨⟨n,q,hs,B⟩,o⟩:=o;have G:au P w ad β H a v:=by simpa using t 0
  have y:=fun k=>t (k+1);simp only[hP]at y;have L:=xy h;have K:d<l.length:=(hp.1 q).1;have C:d<fs.length:=by omega
  obtain⟨pre,c,post,e1,e2,e3,e4,e5,A⟩:=s8 h (hy C);have J:c.length=n:=by rw[q]at e4;simpa using e4.symm
  have u:=xS G B;have x:v.cells.toList.length=n:=by rw[(nD u).1,hs]
  obtain⟨m,k1,k2⟩:=A a _ u (by omega);have F:cells.size=pre.length+c.length+post.length:=by
   have:=congrArg hK (hc.trans e1);simp at this;omega
  have I:v.cells.size=n:=by simpa using x
  obtain⟨nP,r⟩:∃nP,(v.cells.zipIdx.foldl (fun cs(p:c9×Nat)=>cs.setIfInBounds ((l.take d).sum+p.2) p.1) cells)=nP:=⟨_,rfl⟩
  have D:nP.toList=m.flatten:=by
   rw[<-r,k1];have:=KZ v.cells.toList (l.take d).sum 0 cells (by rw[<-e2];simp at x⊢;omega);rw[<-ce];simp only[Array.toList_zipIdx];rw[this,hc,e1,h8,<-e2];exact Tu (by omega)
  obtain⟨g,z,g1,g2,g3⟩:=Bv s b y o k2 D;refine⟨g,z,?_,by simpa only[il]using g2,g3⟩;have E:¬(v.cells.size≠n\/(l.take d).sum+v.cells.size>cells.size):=by
   rw[I,F,<-e2];omega
  simp only[gg,s d n q];simp only[Bool.or_eq_true,decide_eq_true_eq,E,if_false];simp only[<-r]at g1;exact g1
end
section
variable{P:dl}{w:db}{ad ah:Nat->Prop}{β:Bd}{H:Heap}
variable{o:Oper}{ρ:da->AV}{base:Nat}
theorem HQ{α γ:Type}(f:α->Sem γ)(g:α->γ)(w:db):∀l:List α,(∀a∈l,(f a).run P w=.ok (g a) w)->(l.mapM f).run P w=.ok (l.map g) w
 |[],_=>by simp
 |a::l,h=>by
  simp only[h1,g9,h a (by simp),g8,HQ f g w l (fun b c=>h b (by simp[c])),h3];rfl
theorem SW{α γ:Type}(f:α->Sem γ)(g:α->γ)(w:db)(a:Array α)(h:∀x∈a.toList,(f x).run P w=.ok (g x) w):(a.mapM f).run P w=.ok (a.toList.map g).toArray w:=by
 rw[b4,hb,HQ f g w _ h];rfl
theorem JT{ρc:da->c9}{parts:Array (Nat×da)}(h:∀p∈parts.toList,au P w ad β H (ρ p.2) (ρc p.2)):
 ((parts.map fun(i,x)=>(i,ρc x)).toList).map i3=(parts.toList.map fun(i,x)=>(i,ρ x)).map i3/\
 ∀i:Nat,au P w ad β H ((((parts.toList.map fun(i,x)=>(i,ρ x))[i]?).map i2).getD (.p .undef)) ((((parts.map fun(i,x)=>(i,ρc x)).toList[i]?).map i2).getD undef):=by
 refine⟨by simp[Function.comp_def],fun i=>?_⟩;simp only[ck,hV];cases a:parts.toList[i]? with
 |none=>simp[au,aA]
 |some p=>simpa using h p (hE a)
theorem BT{S:Nat×Nat->Prop}:∀{b:List (Nat×AV)}{fs:List AV},aR S fs->(∀p∈b,aC S p.2)->aR S (il fs b)
 |[],fs,h,_=>h
 |(i,v)::r,fs,h,a=>by
  simp only[il];refine BT ?_ (fun p c=>a p (by simp[c]));rw[cG]at h⊢;intro x hx;rcases hL hx with hx|rfl
  ·exact h x hx
  ·exact a (i,x) (by simp)
theorem JU{c:Array (Nat×da)}{p:Nat×da}(a:p∈c.toList):p.2∈((c.toList.map (·.2)).toArray:Array da):=by
 simp;exact⟨p.1,by simpa using a⟩
theorem WN{T u:dg}{z:PV}{l:List Nat}{c:Array (Nat×da)}(y:o.op= .build T c)(hk:kindOf P T= .agg u)(V:cH P T=some z)(s:dD P u=some l)(hs:aL z= .agg u)
 (Q:lP P l (c.toList.map fun(i,x)=>(i,ρ x))):bg P o ρ base {v:=gW u (il ((cF z).map .p) (c.toList.map fun(i,x)=>(i,ρ x)))}:=by
 obtain⟨i,ae,L,z2,z3,z4⟩:=oK V;refine bg.same fun H w ad ah β m aj W _=>?_;have G:∀p∈c.toList,au P w ad β H (ρ p.2) (m p.2)/\aC (aG H) (ρ p.2):=fun p g=>W p.2 (by rw[y];exact JU g);obtain⟨Y,Z⟩:=JT (ρ:=ρ) (ρc:=m) (parts:=c) (fun p g=>(G p g).1);have I:=z3 w ad;obtain⟨fs,rfl⟩:∃fs,z=.st u fs:=by cases z<;>simp[aL]at hs;subst hs;exact⟨_,rfl⟩
 simp only[aP]at I;obtain⟨X,af,q1,aa,ab⟩:=I;rw[s]at q1;cases q1
 have E:∀A:Nat->Option (Nat×Nat),(∀i n,l[i]?=some n->A i=some ((l.take i).sum,n))->
  (∀cells,gg A ae.cells (c.map fun(i,x)=>(i,m x)).toList=some cells->(dk m o).run P w=.ok (.value (.agg cells)) w)->
  ∃C,(dk m o).run P w=.ok (.value C) w/\au P w ad β H (gW u (il ((cF (.st u fs)).map .p) (c.toList.map fun(i,x)=>(i,ρ x)))) C/\
   aC (aG H) (gW u (il ((cF (.st u fs)).map .p) (c.toList.map fun(i,x)=>(i,ρ x)))):=by
  intro A R U;obtain⟨M,N,g1,g2,g3⟩:=Bv R Y Z Q (nC.2 aa) ab;refine⟨.agg M,U _ g1,?_,Bb (BT (iZ _ _) ?_)⟩
  ·rw[XE];simp only[au];exact⟨l,N,s,g2,by rw[<-g3]⟩
  ·intro p g;simp only[h4]at g;obtain⟨q,hq,rfl⟩:=g;exact(G q hq).2
 have k:=hk;unfold kindOf at k
 split at k
 ·rename_i a d;have aB:fQ P T=some (u,a.size):=by unfold fQ;rw[hk,d]
  obtain⟨ag,X,s1,s2,B,t,ac,J⟩:=uP aB;rw[d]at s1;cases s1;rw[s]at t;cases t;have S:(a.mapM fun f=>(do pure (f.offset,<-sizeOf f.type):Sem (Nat×Nat))).run P w=.ok (a.toList.map fun f:Field=>(f.offset,P.cellsOf f.type)).toArray w:=by
   refine SW _ _ w _ (fun f hf=>?_);obtain⟨j,r,rfl⟩:=List.mem_iff_getElem.1 hf;obtain⟨D,g1,g2,g3,g4,g5⟩:=J j (by simpa using r);have:a[j]'(by simpa using r)=D:=by
    have F:a[j]?=some (a[j]'(by simpa using r)):=Array.getElem?_eq_getElem (by simpa using r);rw[g1]at F;exact(i1 F).symm
   simp only[cc,this];simp[K g4]
  refine E (fun i=>(a.toList.map fun f:Field=>(f.offset,P.cellsOf f.type)).toArray[i]?) ?_ (fun cells hc=>?_)
  ·intro i n b;have hi:i<a.size:=by rw[<-ac];exact(hp.1 b).1
   obtain⟨D,g1,g2,g3,g4,g5⟩:=J i hi;rw[b]at g3;simp only[List.getElem?_toArray,hV,cb,g1];simp[g2,i1 g3]
  ·simp only[dk,y];refine er ?_;simp only[gi,g9,sM L z2,g8,c6 d,S,hc,ha]
 ·rename_i n e d;have O:gh P T=some (u,n):=by unfold gh;rw[hk,d]
  obtain⟨e',s1,s2,B,t⟩:=sT O;rw[d]at s1;cases s1;rw[s]at B;cases B;refine E (fun i=>some (i*P.cellsOf e,P.cellsOf e)) ?_ (fun cells hc=>?_)
  ·intro i ak b;rw[hA]at b
   split at b
   ·rename_i ai;simp at b;subst b;rw[hw,h6 (by omega),hv]
   ·simp at b
  ·simp only[dk,y];refine er ?_;simp only[gi,g9,sM L z2,g8,c6 d,K t,hc,ha]
 ·split at k<;>simp at k
 ·simp at k
where
 K {P:dl} {w:db} {T:dg} (h:0<P.cellsOf T):(sizeOf T).run P w=.ok (P.cellsOf T) w:=by
  cases hi:P.info? T with
  |none=>simp[gy,hi]at h
  |some i=>simp[sizeOf,typeInfo,hi,gy]
theorem xL(a:Array c9)(n:Nat)(_h:0<a.size):((b0 (n*a.size)).map (a[·% a.size]!)).toList=(hr n a.toList).flatten:=by
 simp only[ck,Array.toList_range]
 induction n with
 |zero=>simp
 |succ n c=>
  rw[Nat.succ_mul,List.range_add,List.map_append,c,List.replicate_succ',hT];congr 1;simp only[List.map_map,hB,List.flatten_nil,h0];refine List.ext_getElem (by simp) (fun i b d=>?_);simp at b;simp[Nat.mul_add_mod_self_right,Nat.mod_eq_of_lt b,b,getElem!_pos]
theorem uQ{z:PV}{a:List c9}(h:aP P w ad z a):∀n:Nat,Row P w ad β H a.length (hr n (.p z)) (hr n a)
 |0=>ib.2 rfl
 |n+1=>by
  rw[hS,hS,qu];exact⟨a,_,rfl,by simpa only[bf]using h,rfl,uQ h n⟩
theorem xT(d:bP P w ad β H ah){b:Nat}(c:H[b]?=some .hole){cells:Array c9}{T:dg}{k:AK}{ai cap:Nat}{a:List AV}{e:List (List c9)}{rest:List c9}(g:k≠ .frozen)(n:¬cX k a)
 (o:Row P w ad β H ai a e)(i:aR (aG H) a)(hc:cells.toList=e.flatten++rest)(p:cells.size=cap*ai)(m:a.length<=cap)(l:k=.exact->cap=a.length)(q:k=.bytes->T=Gl.u8):
 bR P ah ad w β H ad {w with heap:=w.heap.push (.cells cells T)} (β.at b w.heap.size cap) (H.set b (.arr k 0 ai a))/\
 au P {w with heap:=w.heap.push (.cells cells T)} ad (β.at b w.heap.size cap) (H.set b (.arr k 0 ai a)) (.sl b 0 ai 0 a.length) (.slice (some ⟨w.heap.size,0,none⟩) a.length cap):=by
 have aB:=yc (β:=β) c (.arr k 0 ai a) w.heap.size cap;have ak:∀y,aG H y->aG (H.set b (.arr k 0 ai a)) y:=lT c (fun _ h=>h.elim);have j:=(hp.1 c).1;refine⟨sO (cap:=cap) d c (ob:=.cells cells T)
  (.inr ⟨cells,T,e,rest,by simp[Bd.at],bJ.mono (fun _ x=>x) (fun k hk=>uX _ _ (d.bQ k hk)) aB _ _ _ i o,hc,by simp[Bd.at,p],by simpa[Bd.at]using m,by simpa[Bd.at]using l,by
   unfold cw;rw[if_neg (by simpa using g)];simp only[Bd.at,if_true];exact⟨fun h=>h7 _ (d.bQ _ h),fun h=>h7 _ (d.dX _ h)⟩,(fun h=>(g h).elim),q⟩) (aR.mono ak _ i),?_⟩
 simp only[au,bK,bO];refine⟨rfl,fun s r f=>?_⟩;unfold eD at f;rw[ht j]at f;cases f;exact⟨by omega,fun h=>(n h).elim,fun _=>by simp[Bd.at]⟩
theorem S0{T:dg}{n sz:Nat}{z:PV}{a:Array (Nat×da)}(C:o.op= .buildSlice T n a)(b:cL P T=some sz)(X:cH P (et P T)=some z)(hs:bD P (aL z)=sz)(ae:n*sz<=1000000)
 (Q:lP P (hr n sz) (a.toList.map fun(i,x)=>(i,ρ x))):
 bg P o ρ base {v:=.sl base 0 sz 0 n,aQ:=[.arr .exact 0 sz (il (hr n (.p z)) (a.toList.map fun(i,x)=>(i,ρ x)))]}:=by
 obtain⟨e,ag,b⟩:=j0 b;obtain⟨i,f,I,z2,z3,z4⟩:=oK X;rw[b.pZ]at I;intro H w ad ah β t R Z _ N;have B:H[base]?=some .hole:=by simpa using N 0 (by simp)
 have D:∀p∈a.toList,au P w ad β H (ρ p.2) (t p.2)/\aC (aG H) (ρ p.2):=fun p d=>Z p.2 (by rw[C];exact JU d);obtain⟨aa,ab⟩:=JT (ρ:=ρ) (ρc:=t) (parts:=a) (fun p d=>(D p d).1);have F:=z3 w ad;have s:f.cells.size=sz:=by have:=(ny F).1;simp at this;omega
 have r:=uQ (β:=β) (H:=H) F n;have Y:f.cells.toList.length=sz:=by simpa using s
 rw[Y]at r;obtain⟨y,m⟩:∃c,c=(b0 (n*sz)).map (f.cells[·% f.cells.size]!):=⟨_,rfl⟩
 have O:y.toList=(hr n f.cells.toList).flatten:=by
  rw[m,<-s];exact xL _ _ (by rw[s];exact b.pos)
 have U:bJ P w ad β H (hr n sz) (hr n (.p z)) (hr n f.cells.toList):=by
  unfold Row at r;simpa using r
 obtain⟨u,J,g1,g2,g3⟩:=Bv (place:=fun i=>some (i*sz,sz)) (by
  intro i af j;rw[hA]at j
  split at j
  ·rename_i ac;simp at j;subst j;rw[hw,h6 (by omega),hv]
  ·simp at j) aa ab Q U O
 have l:(il (hr n (.p z)) (a.toList.map fun(i,x)=>(i,ρ x))).length=n:=by
  have:=(xy g2).2.1;simpa using this
 have E:Row P w ad β H sz (il (hr n (.p z)) (a.toList.map fun(i,x)=>(i,ρ x))) J:=by unfold Row;rw[l];exact g2
 have S:aR (aG H) (il (hr n (.p z)) (a.toList.map fun(i,x)=>(i,ρ x))):=by
  refine BT ?_ ?_
  ·rw[cG];intro v W;rw[hO W];simp[aC]
  ·intro p d;simp only[h4]at d;obtain⟨q,hq,rfl⟩:=d;exact(D q hq).2
 have M:u.size=n*sz:=by
  have A:=(fK E).2;rw[l,<-g3]at A;simpa using A
 have V:(dk t o).run P w=.ok (.value (.slice (some ⟨w.heap.size,0,none⟩) n n)) {w with heap:=w.heap.push (.cells u e)}:=by
  simp only[dk,C];have K:¬(n*sz>2^24):=by omega
  have L:n*sz=0->(b0 (n*sz)).map ((#[]:Array c9)[·% (#[]:Array c9).size]!)=y:=by
   intro g;rw[m,g];simp
  refine uN ?_;simp only[Instr.buildSlice,g9,c6 b.gv,g8,b.run,if_neg K]
  by_cases g:n*sz=0
  ·rw[if_pos g];simp only[g9,ha,g8,L g,g1,newRow,ee]
  ·rw[if_neg g];simp only[g9,ha,g8,sM I z2,<-m,g1,newRow,ee]
 obtain⟨q1,G⟩:=xT (T:=e) (k:=.exact) R B (by simp) (by simp[cX,AK.gr]) E S (rest:=[]) (by simpa using g3) (by rw[M]) (by omega:_<=n) (fun _=>l.symm) (fun h=>by cases h);rw[l]at G;exact⟨_,_,_,_,ad,V,.inl rfl,q1,G,by
  simp only[aC,lH];exact⟨_,ht (hp.1 B).1,h5 _⟩⟩
theorem S9{T:dg}{lo q:da}{sz:Nat}{z:PV}{l:Int}(t:o.op= .makeSlice T lo q)(a:cL P T=some sz)(X:cH P (et P T)=some z)(L:ρ lo= .p (.int .i64 l))(hc:ρ q= .p (.int .i64 l))
 (hs:bD P (aL z)=sz)(b:0<=l)(M:l<=cO):bg P o ρ base {v:=.sl base 0 sz 0 l.toNat,aQ:=[.arr .exact 0 sz (hr l.toNat (.p z))]}:=by
 obtain⟨e,d,a⟩:=j0 a;obtain⟨i,g,D,z2,z3,z4⟩:=oK X;rw[a.pZ]at D;intro H w ad ah β Z O B _ K;have u:H[base]?=some .hole:=by simpa using K 0 (by simp)
 have r:=(B lo (by simp[t,gj])).1;have j:=(B q (by simp[t,gj])).1;rw[L]at r;rw[hc]at j;simp only[au,aA]at r j;have A:=z3 w ad;have m:g.cells.size=sz:=by have:=(ny A).1;simp at this;omega
 obtain⟨n,rfl⟩:=Int.eq_ofNat_of_zero_le b;have y:=uQ (β:=β) (H:=H) A n;have Y:g.cells.toList.length=sz:=by simpa using m
 rw[Y]at y;obtain⟨f,s⟩:∃c,c=(b0 (n*sz)).map (g.cells[·% g.cells.size]!):=⟨_,rfl⟩
 have x:f.toList=(hr n g.cells.toList).flatten:=by
  rw[s,<-m];exact xL _ _ (by rw[m];exact a.pos)
 have N:n<=1073741824:=by unfold cO at M;omega
 have E:d.bytes*n<=32768*1073741824:=ih (by have:=a.bytes;omega) N;have Q:(dk Z o).run P w=.ok (.value (.slice (some ⟨w.heap.size,0,none⟩) n n)) {w with heap:=w.heap.push (.cells f e)}:=by
  simp only[dk,t,r,j];have W:IntKind.i64.wrap (n:Int)=n:=IntWalk.i64_in _ (by omega);have R:¬((n:Int)<0):=by omega
  have S:¬((d.bytes:Int)*n>2^48):=by
   intro J;have j:d.bytes*n<=35184372088832:=E;have aa:((d.bytes*n:Nat):Int)>281474976710656:=by rw[Int.natCast_mul];exact J
   omega
  have F:n*sz=0->(b0 (n*sz)).map ((#[]:Array c9)[·% (#[]:Array c9).size]!)=f:=by
   intro b;rw[s,b];simp
  have U:(typeInfo e).run P w=.ok d w:=by simp[typeInfo,a.info]
  have G:((decide ((n:Int)<0)||decide ((d.bytes:Int)*n>2^48))||decide ((n:Int)<0)||decide ((n:Int)>n))=false:=by
   simp only[R,S,decide_false,Bool.or_false,Bool.false_or];simp
  refine uN ?_;simp only[Instr.makeSlice,g9,c6 a.gv,g8,asInt,asIntOf,ha,U,W];rw[if_neg (by simpa using G)];simp only[g9,run_askRoom,g8,a.run,Int.toNat_natCast]
  by_cases b:n*sz=0
  ·rw[if_pos b];simp only[g9,ha,g8,F b,newRow,ee]
  ·rw[if_neg b];simp only[g9,ha,g8,sM D z2,<-s,newRow,ee]
 have I:f.size=n*sz:=by
  have:=congrArg hK x;simp at this;rw[this];simp[m]
 obtain⟨q1,C⟩:=xT (T:=e) (k:=.exact) O u (cells:=f) (cap:=n) (by simp) (by simp[cX,AK.gr]) y (by
  rw[cG];intro v V;rw[hO V];simp[aC]) (rest:=[]) (by simpa using x) I (by simp) (fun _=>by simp) (fun h=>by cases h)
 simp only[List.length_replicate]at C;exact⟨_,_,_,_,ad,Q,.inl rfl,q1,C,by
  simp only[aC,lH];exact⟨_,ht (hp.1 u).1,h5 _⟩⟩
end
section
variable{P:dl}{w:db}{ad ah:Nat->Prop}{β:Bd}{H:Heap}
variable{o:Oper}{ρ:da->AV}{base:Nat}
theorem kf{x:Option da}{d:Nat}{R:Nat->Prop}(h:gC (x.map ρ) d R):
 ∃n,R n/\((x=none/\n=d)\/∃y k,x=some y/\ρ y=.p (.int k n)):=by
 cases x with
 |none=>exact⟨d,h,.inl ⟨rfl,rfl⟩⟩
 |some y=>
  simp only[iL,gC]at h
  split at h
  ·rename_i hx;cases hx
  ·rename_i k i hx;simp at hx;obtain⟨a,h⟩:=h;refine⟨i.toNat,h,.inr ⟨y,k,rfl,?_⟩⟩;rw[hx,Int.toNat_of_nonneg a]
  ·exact h.elim
theorem sA{lo hi:Option da}{ρc:da->c9}{b:Bool}{len cap d h l:Nat}(m:d=len)(n:(hi=none/\h=d)\/∃y k,hi=some y/\ρ y= .p (.int k h))(o:(lo=none/\l=0)\/∃y k,lo=some y/\ρ y= .p (.int k l))
 (f:h<=cap)(g:l<=h)(e:∀y,(hi=some y\/lo=some y)->au P w ad β H (ρ y) (ρc y)):(fm b len cap (lo.map ρc) (hi.map ρc) none).run P w=.ok (l,h,cap) w:=by
 subst m;rcases n with⟨rfl,rfl⟩|⟨y,k,rfl,i⟩<;>rcases o with⟨rfl,rfl⟩|⟨z,q,rfl,j⟩
 ·simp[fm]
 ·have c:=e z (.inr rfl);rw[j]at c;simp only[au,aA]at c;simp[fm,c,gb,asIntOf,g]
 ·have a:=e y (.inl rfl);rw[i]at a;simp only[au,aA]at a;simp[fm,a,gb,asIntOf,f]
 ·have a:=e y (.inl rfl);rw[i]at a;simp only[au,aA]at a;have c:=e z (.inr rfl);rw[j]at c;simp only[au,aA]at c;simp[fm,a,c,gb,asIntOf,f,g]
theorem su{T e:dg}(b:P.underlying T=some (.slice e))(x:c9)(lo hi a:Option c9)(w:db):(ge T x lo hi a).run P w=(fv T x lo hi a).run P w:=by
 simp only[ge,g9,c6 b,g8]
theorem To{T:dg}(b:P.underlying T=some .string)(x:c9)(lo hi a:Option c9)(w:db):(ge T x lo hi a).run P w=(fv T x lo hi a).run P w:=by
 simp only[ge,g9,c6 b,g8]
theorem oZ{T:dg}{x y:da}{lo hi b:Option da}(a:o.op=.slice T x lo hi b)(h:hi=some y\/lo=some y):y∈o.op.operands:=by
 rw[a];simp only[gj];rcases h with rfl|rfl<;>simp
theorem xF{T:dg}(h:im P T=true):P.underlying T=some .string:=by
 unfold im at h
 split at h
 ·assumption
 ·simp at h
theorem uW{ai:Nat}:∀{l:List AV},fc P ai l↔∀v∈l,aa v≠.bad/\bD P (aa v)=ai
 |[]=>by simp[fc]
 |v::l=>by simp[fc,uW (l:=l)]
theorem sQ{sz ai:Nat}{a:List AV}{d:List (List c9)}(b:Row P w ad β H ai a d)(hs:fc P sz a)(g:a≠[]):ai=sz:=by
 cases a with
 |nil=>exact(g rfl).elim
 |cons v a=>
  rw[qu]at b;obtain⟨c,cs,rfl,e,f,_⟩:=b;have:=(uW.1 hs v (by simp)).2;rw[<-f,(nD e).1,this]
theorem LF{ai:Nat}{d:List PV}{e:List (List c9)}(h:aY P w ad (hr d.length ai) d e)(off len:Nat)(f:off+len<=d.length):
 ∃a b c,e=a++b++c/\aY P w ad (hr ((d.drop off).take len).length ai) ((d.drop off).take len) b/\a.flatten.length=off*ai:=by
 have g:Row P w ad ⟨id,id⟩ [] ai (d.map .p) e:=lS.2 h;obtain⟨a,b,c,e1,e2,e3,_⟩:=jC g off len (by simpa using f);rw[A8,lS]at e2;exact⟨a,b,c,e1,e2,e3⟩
theorem WJ{T:dg}{x:da}{lo hi N:Option da}(r:o.op= .slice T x lo hi N){H0:Heap}{K:aS->Prop}(h:nJ P T H0 (ρ x) (lo.map ρ) (hi.map ρ) (N.map ρ) K):
 ∃e,K e/\bg P o ρ base e/\(∀p∈e.ak,H0[p.1]?=some p.2)/\e.aJ=[]:=by
 unfold nJ at h;obtain⟨ap,h⟩:=h;obtain rfl:N=none:=by cases N<;>simp_all
 have J:x∈o.op.operands:=by rw[r];simp[gj]
 split at h
 ·
  rename_i s hx;obtain⟨af,h⟩:=h;have ab:=xF af;obtain⟨l,h,C⟩:=kf h;obtain⟨f,h,D⟩:=kf h;obtain⟨A,B,h⟩:=h;refine⟨_,h,bg.same fun H w ad ah β n v m _=>?_,by simp,rfl⟩;have j:=(m x J).1;rw[hx]at j;simp only[au,aA]at j;obtain⟨bs,e1,e2⟩:=j;have ag:s.length=bs.size:=by rw[e2];simp
  have u:=sA (P:=P) (w:=w) (ad:=ad) (β:=β) (H:=H) (b:=false) (cap:=bs.size) (ρ:=ρ) (ρc:=n) ag C D (by omega) B (fun y z=>(m y (oZ r z)).1);refine⟨.string (bs.extract f l),?_,?_,by simp[aC]⟩
  ·simp only[dk,r,e1];refine er ?_;rw[To ab];simp only[fv,g9,c6 ab,g8,ix,Option.isSome_none];simp[u]
  ·simp only[au,aA];refine⟨_,rfl,?_⟩;rw[e2,<-h2,<-List.map_drop,Go.Lib.extract_data,hG]
 ·
  rename_i hx;obtain⟨g,h⟩:=h;obtain⟨sz,g⟩:=ip.1 g;obtain⟨e,X,g⟩:=j0 g;obtain⟨l,h,C⟩:=kf h;obtain⟨f,h,D⟩:=kf h;obtain⟨A,B,F⟩:=h;obtain rfl:l=0:=by omega
  obtain rfl:f=0:=by omega
  refine⟨_,F,bg.same fun H w ad ah β n v m _=>?_,by simp,rfl⟩;have j:=(m x J).1;rw[hx]at j;simp only[au,aA]at j;have u:=sA (P:=P) (w:=w) (ad:=ad) (β:=β) (H:=H) (b:=true) (cap:=0) (ρ:=ρ) (ρc:=n) (len:=0) (d:=0) rfl C D (by omega) B (fun y z=>(m y (oZ r z)).1);refine⟨.slice none 0 0,?_,by rw[hx];simp[au,aA],by rw[hx];simp[aC]⟩;simp only[dk,r,j];refine er ?_;rw[su g.gv];simp only[fv,g9,c6 g.gv,g8,ix,u,g.run];simp
 ·
  rename_i full q hx;obtain⟨l,h,C⟩:=kf h;obtain⟨f,h,D⟩:=kf h;obtain⟨A,B,h⟩:=h
  split at h
  case h_2=>exact h.elim
  rename_i sz g;obtain⟨U,h⟩:=h;obtain⟨e,X,g⟩:=j0 g;refine⟨_,h,bg.same fun H w ad ah β n v m _=>?_,by simp,rfl⟩;have j:=(m x J).1;rw[hx]at j;simp only[au,aA]at j;obtain⟨al,off,cap,ai,Y,v1,v2,v3,v4,v5,sp,V,v6⟩:=j;have W:cap≠f->sp=none:=fun h=>V.resolve_right (by omega);have u:=sA (P:=P) (w:=w) (ad:=ad) (β:=β) (H:=H) (b:=true) (cap:=cap) (ρ:=ρ) (ρc:=n) rfl C D (by omega) B (fun y z=>(m y (oZ r z)).1);refine⟨.slice (some (if cap=f then⟨al,off,sp⟩else⟨al,off+f*sz,none⟩)) (l-f) (cap-f),?_,?_,by simp[aC]⟩
  ·simp only[dk,r,v6];refine er ?_;rw[su g.gv];simp only[fv,g9,c6 g.gv,g8,ix,u,g.run]
   by_cases hc:cap=f
   ·simp[hc]
   ·obtain rfl:=W hc;simp[hc,kj]
  ·have I:((q.take l).drop f).length=l-f:=by simp;omega
   simp only[au,aA,I]
   by_cases E:q=[]
   ·subst E;simp at A;subst A;obtain rfl:f=0:=by omega
    by_cases hc:cap=0
    ·exact⟨al,off,cap,sz,[],by simp[aY],by simp,by intro i hi;simp at hi,fun _=>by simpa using hc,by simp,sp,.inr hc,by simp[hc]⟩
    ·exact⟨al,off,cap,sz,[],by simp[aY],by simp,by intro i hi;simp at hi,fun hf=>by simp at hf;simpa using v4 hf,by simp,none,.inl rfl,by simp[hc]⟩
   ·have Q:ai=sz:=sQ (w:=w) (ad:=ad) (β:=β) (H:=H) (lS.2 v1) U (by simpa using E);subst Q;obtain⟨a,b,c,e1,e2,e3⟩:=LF v1 f (l-f) (by omega);rw[<-hG]at e2;have ao:(q.drop f).take (l-f)=(q.take l).drop f:=by rw[hG]
    rw[I]at e2
    by_cases hc:cap=f
    ·obtain rfl:l=f:=by omega
     have O:b=[]:=by
      have:=(uO e2).2.2;simpa using this
     subst O;refine⟨al,off,cap-l,ai,[],by simpa using e2,fun _=>v2 E,by intro i hi;simp at hi,?_,by omega,sp,.inr (by omega),by simp[hc]⟩;intro _;omega
    ·refine⟨al,off+f*ai,cap-f,ai,b,e2,fun _=>v2 E,?_,?_,by omega,none,.inl rfl,by simp[hc]⟩
     ·have:=sD v3 (pre:=a.flatten) (xs:=b.flatten) (post:=c.flatten) (by rw[e1];simp);rw[e3]at this;exact this
     ·intro hf;simp at hf;have:=v4 hf.1;omega
 ·
  rename_i q hx;obtain⟨l,h,C⟩:=kf h;obtain⟨f,h,D⟩:=kf h;obtain⟨A,B,h⟩:=h
  split at h
  case h_2=>exact h.elim
  rename_i sz g;obtain⟨U,h⟩:=h;obtain⟨e,X,g⟩:=j0 g;refine⟨_,h,bg.same fun H w ad ah β n v m _=>?_,by simp,rfl⟩;have j:=(m x J).1;rw[hx]at j;simp only[au,aA]at j;rcases j with⟨rfl,j⟩|⟨al,off,cap,ai,Y,v1,v2,v3,v5,sp,V,v6⟩
  ·simp at A;subst A;obtain rfl:f=0:=by omega
   have u:=sA (P:=P) (w:=w) (ad:=ad) (β:=β) (H:=H) (b:=true) (cap:=0) (ρ:=ρ) (ρc:=n) (len:=0) (d:=0) rfl C D (by omega) B (fun y z=>(m y (oZ r z)).1);refine⟨.slice none 0 0,?_,by simp[au,aA],by simp[aC]⟩;simp only[dk,r,j];refine er ?_;rw[su g.gv];simp only[fv,g9,c6 g.gv,g8,ix,u,g.run];simp
  have W:cap≠f->sp=none:=fun h=>V.resolve_right (by omega);have u:=sA (P:=P) (w:=w) (ad:=ad) (β:=β) (H:=H) (b:=true) (cap:=cap) (ρ:=ρ) (ρc:=n) rfl C D (by omega) B (fun y z=>(m y (oZ r z)).1);refine⟨.slice (some (if cap=f then⟨al,off,sp⟩else⟨al,off+f*sz,none⟩)) (l-f) (cap-f),?_,?_,by simp[aC]⟩
  ·simp only[dk,r,v6];refine er ?_;rw[su g.gv];simp only[fv,g9,c6 g.gv,g8,ix,u,g.run]
   by_cases hc:cap=f
   ·simp[hc]
   ·obtain rfl:=W hc;simp[hc,kj]
  ·have I:((q.take l).drop f).length=l-f:=by simp;omega
   simp only[au,aA,I];right
   by_cases E:q=[]
   ·subst E;simp at A;subst A;obtain rfl:f=0:=by omega
    by_cases hc:cap=0
    ·exact⟨al,off,cap,sz,[],by simp[aY],by simp,by intro i hi;simp at hi,by simp,sp,.inr hc,by simp[hc]⟩
    ·exact⟨al,off,cap,sz,[],by simp[aY],by simp,by intro i hi;simp at hi,by simp,none,.inl rfl,by simp[hc]⟩
   ·have Q:ai=sz:=sQ (w:=w) (ad:=ad) (β:=β) (H:=H) (lS.2 v1) U (by simpa using E);subst Q;obtain⟨a,b,c,e1,e2,e3⟩:=LF v1 f (l-f) (by omega);rw[<-hG]at e2;rw[I]at e2
    by_cases hc:cap=f
    ·obtain rfl:l=f:=by omega
     have O:b=[]:=by
      have:=(uO e2).2.2;simpa using this
     subst O;exact⟨al,off,cap-l,ai,[],by simpa using e2,fun _=>v2 E,by intro i hi;simp at hi,by omega,sp,.inr (by omega),by simp[hc]⟩
    ·refine⟨al,off+f*ai,cap-f,ai,b,e2,fun _=>v2 E,?_,by omega,none,.inl rfl,by simp[hc]⟩;have:=sD v3 (pre:=a.flatten) (xs:=b.flatten) (post:=c.flatten) (by rw[e1];simp);rw[e3]at this;exact this
 ·
  rename_i b ar ai off len hx
  split at h
  case h_2=>exact h.elim
  rename_i k aq an q S;obtain⟨rfl,rfl,g,M,hlen,h⟩:=h;obtain⟨l,h,C⟩:=kf h;obtain⟨f,h,D⟩:=kf h;obtain⟨A,B,F⟩:=h;obtain⟨e,X,g⟩:=j0 g
  have key:∀(H:Heap)(w:db)(ad ah:Nat->Prop)(β:Bd)(n:da->c9),bP P w ad β H ah->(∀x∈o.op.operands,au P w ad β H (ρ x) (n x)/\aC (aG H) (ρ x))->
   H[b]?=some (.arr k ar ai q)->q.length<=β.cap b/\(dk n o).run P w=.ok (.value (.slice (some (if β.cap b-off=f then⟨β.al b,off*ai,none⟩else⟨β.al b,off*ai+f*ai,none⟩)) (l-f) (β.cap b-off-f))) w:=by
   intro H w ad ah β n v m t;have j:=(m x J).1;rw[hx]at j;simp only[au,bK,bO]at j;obtain⟨_,_,j⟩:=j.2 k q t;have j:=j M;rcases v.cB b _ t with hold|⟨cs,am,Y,rest,k1,k2,k3,k4,k5,k6⟩
   ·exact(M hold).elim
   have u:=sA (P:=P) (w:=w) (ad:=ad) (β:=β) (H:=H) (b:=true) (cap:=β.cap b-off) (ρ:=ρ) (ρc:=n) rfl C D (by omega) B (fun y z=>(m y (oZ r z)).1);refine⟨k5,?_⟩;simp only[dk,r,j];refine er ?_;rw[su g.gv];simp only[fv,g9,c6 g.gv,g8,ix,u,g.run]
   by_cases hc:β.cap b-off=f
   ·simp[hc]
   ·simp[hc,kj]
  split at F
  ·rename_i Z;subst Z;refine⟨_,F,bg.same fun H w ad ah β n v m ak=>?_,by simpa using S,rfl⟩;have t:H[b]?=some (.arr k ar ai q):=by simpa using ak
   obtain⟨ac,L⟩:=key H w ad ah β n v m t;refine⟨_,L,?_,?_⟩
   ·simp only[au,bK,bO];refine⟨by simp[hj],fun aj ae G=>?_⟩;unfold eD at G;rw[t]at G;cases G;exact⟨by omega,fun R=>(M R).elim,fun _=>by simp⟩
   ·simp only[aC];exact⟨_,t,h5 _⟩
  ·rename_i Z
   split at F
   ·rename_i aa;subst aa;refine⟨_,F,bg.same fun H w ad ah β n v m ak=>?_,by simpa using S,rfl⟩;have t:H[b]?=some (.arr k ar ai q):=by simpa using ak
    obtain⟨ac,L⟩:=key H w ad ah β n v m t;refine⟨_,L,?_,by simp[aC]⟩;simp only[au,aA]
    by_cases hc:β.cap b-off=f
    ·exact⟨β.al b,off*ai,β.cap b-off-f,ai,[],by simp[aY],by simp,by intro i hi;simp at hi,by simp,by simp,by simp[hc]⟩
    ·exact⟨β.al b,off*ai+f*ai,β.cap b-off-f,ai,[],by simp[aY],by simp,by intro i hi;simp at hi,by simp,by simp,by simp[hc]⟩
   ·rename_i aa;refine⟨_,F,bg.same fun H w ad ah β n v m ak=>?_,by simpa using S,rfl⟩;have t:H[b]?=some (.arr k ar ai q):=by simpa using ak
    obtain⟨ac,L⟩:=key H w ad ah β n v m t;refine⟨_,L,?_,?_⟩
    ·simp only[au,bK,bO];refine⟨by simp[hj],fun aj ae G=>?_⟩;unfold eD at G;rw[t]at G;cases G;refine⟨by omega,fun R=>(M R).elim,fun _=>?_⟩;have hc:¬(β.cap b-off=f):=by omega
     rw[if_neg hc,ik,Nat.sub_sub]
    ·simp only[aC];exact⟨_,t,h5 _⟩
 ·exact h.elim
theorem Vy{T:dg}{x:da}{lo hi:Option da}{d:da}(g:o.op= .slice T x lo hi (some d)){H0:Heap}{K:aS->Prop}(h:qy P T H0 (ρ x) (lo.map ρ) (hi.map ρ) (ρ d) K):
 ∃e,K e/\bg P o ρ base e/\(∀p∈e.ak,H0[p.1]?=some p.2)/\e.aJ=[]:=by
 unfold qy at h;have S:x∈o.op.operands:=by rw[g];simp[gj]
 split at h
 case h_2=>exact h.elim
 rename_i b ar ai off len hx
 split at h
 case h_2=>exact h.elim
 rename_i k ag ab es V;obtain⟨rfl,rfl,c,E,hlen,X,h⟩:=h;obtain⟨i,h,Q⟩:=kf h;obtain⟨I,h,R⟩:=kf h;have J:gC ((some d).map ρ) 0 (fun m=>off+m<=es.length/\i<=m/\I<=i/\K {v:=.p .undef,ak:=[(b,.arr k ar ai es)]}):=h;obtain⟨B,h,U⟩:=kf J;obtain⟨ac,C,L,M⟩:=h;obtain⟨sz,c⟩:=ip.1 c;obtain⟨e,af,c⟩:=j0 c;refine⟨_,M,bg.same fun H w ad ah β f W n ak=>?_,by simpa using V,rfl⟩;have F:H[b]?=some (.arr k ar ai es):=by simpa using ak
 have a:=(n x S).1;rw[hx]at a;simp only[au,bK,bO]at a;obtain⟨_,_,a⟩:=a.2 k es F;have a:=a E;rcases W.cB b _ F with hold|⟨cs,Z,aa,rest,k1,k2,k3,k4,k5,k6⟩
 ·exact(E hold).elim
 have s:∃q,ρ d=.p (.int q B):=by
  rcases U with⟨h,_⟩|⟨y,q,A,a⟩
  ·cases h
  ·cases A;exact⟨q,a⟩
 obtain⟨q,s⟩:=s;have j:=(n d (by rw[g];simp[gj])).1;rw[s]at j;simp only[au,aA]at j;have O:∃y G,hi=some y/\ρ y=.p (.int G i):=by
  rcases Q with⟨rfl,_⟩|h
  ·simp at X
  ·exact h
 obtain⟨y,G,rfl,A⟩:=O;have l:=(n y (oZ g (.inl rfl))).1;rw[A]at l;simp only[au,aA]at l;have N:(fm true len (β.cap b-off) (lo.map f) (some (f y)) (some (f d))).run P w=.ok (I,i,B) w:=by
  have D:(B:Int)<=((β.cap b-off:Nat):Int):=by omega
  rcases R with⟨rfl,rfl⟩|⟨z,ae,rfl,Y⟩
  ·simp[fm,j,l,gb,asIntOf,D,C]
  ·have u:=(n z (oZ g (.inr rfl))).1;rw[Y]at u;simp only[au,aA]at u;simp[fm,j,l,u,gb,asIntOf,D,C,L]
 have t:∃r,(ge T (f x) (lo.map f) (some (f y)) (some (f d))).run P w=.ok r w:=by
  rw[su c.gv,a];simp only[fv,g9,c6 c.gv,g8,N,c.run];exact⟨_,rfl⟩
 obtain⟨r,t⟩:=t;refine⟨r,?_,by simp only[au,aA],by simp[aC]⟩;simp only[dk,g,iL];exact er t
end
section
variable{P:dl}{w:db}{ad ah:Nat->Prop}{β:Bd}{H:Heap}
variable{o:Oper}{ρ:da->AV}{base:Nat}
theorem pN{H0 H:Heap}{a:AV}{c:List AV}(h:gL H0 a=some c)(ak:∀p∈dv H0 a,H[p.1]?=some p.2):gL H a=some c:=by
 cases a with
 |sl b ar ai off len=>
  simp only[gL]at h⊢;simp only[dv]at ak
  split at h
  case h_2=>simp at h
  rename_i k g f e d;rw[d]at ak;have:=ak _ (hU.2 rfl);simp only at this;rw[this];exact h
 |p v=>cases v<;>exact h
 |_=>simp[gL]at h
theorem nj{H0:Heap}{a:AV}:∀p∈dv H0 a,H0[p.1]?=some p.2:=by
 intro p b;unfold dv at b
 split at b
 all_goals first
  |(split at b
    ·rename_i o c;simp at b;subst b;exact c
    ·simp at b)
  |simp at b
theorem uL{sz m:Nat}{al off n c:Nat}{w:db}{xs:List c9}(e:xs.length=m*sz)(hc:gM w al off xs):(ey sz m (.slice (some ⟨al,off,none⟩) n c)).run P w=.ok xs.toArray w:=by
 refine ej w sz m _ n c xs e ?_;intro j v a;rw[kj];obtain⟨b,d⟩:=hp.1 a;rw[hc j b,d]
theorem A2{sz n c:Nat}{a:Addr}{w:db}:(ey sz 0 (.slice (some a) n c)).run P w=.ok #[] w:=
 ej w sz 0 a n c [] (by simp) (fun j v b=>by simp at b)
theorem vw{sz:Nat}{a:AV}{u:List AV}{v:c9}(g:gL H a=some u)(I:bP P w ad β H ah)(i:au P w ad β H a v)(S:aC (aG H) a)(hs:fc P sz u):
 ∃d,Row P w ad β H sz u d/\aR (aG H) u/\e8 v=pure u.length/\
  ∀w':db,w'.heap=w.heap->∀m,m<=u.length->(ey sz m v).run P w'=.ok (d.take m).flatten.toArray w':=by
 have G:∀{f:List AV}{d:List (List c9)}(m:Nat),Row P w ad β H sz f d->m<=f.length->(d.take m).flatten.length=m*sz:=by
  intro f d m h j;obtain⟨x,y,z,e1,e2,e3,e4,e5⟩:=jC h 0 m (by omega);have hx:x=[]:=by have:=(fK e4).1;simpa using this
  have O:y.length=m:=by have:=(fK e2).1;simp at this;omega
  subst hx;have K:d.take m=y:=by rw[e1];simp[O]
  rw[K];have:=(fK e2).2;rw[this];simp[j]
 have cells:∀{al off:Nat}{d:List (List c9)}(w':db),w'.heap=w.heap->gM w al off d.flatten->∀m,gM w' al off (d.take m).flatten:=by
  intro al off d w' q hc m;have J:gM w' al off d.flatten:=hc.same (by rw[q]);have:=sD J (pre:=[]) (xs:=(d.take m).flatten) (post:=(d.drop m).flatten) (by
   rw[List.nil_append,<-hT,List.take_append_drop])
  simpa using this
 cases a with
 |p t=>
  cases t with
  |aN=>
   simp[gL]at g;subst g;simp only[au,aA]at i;subst i;exact⟨[],ib.2 rfl,by simp[aR],rfl,fun w' _ m j=>by simp[ey]⟩
  |bL full f=>
   simp[gL]at g;subst g;simp only[au,aA]at i;obtain⟨al,off,cap,ai,d,v1,v2,v3,v4,v5,sp,E,rfl⟩:=i;rcases E with rfl|rfl
   case inr=>
    obtain rfl:f=[]:=hz.1 (by omega);exact⟨[],ib.2 rfl,by simp[aR],rfl,fun w' _ m j=>by
     obtain rfl:m=0:=by simpa using j
     exact A2⟩
   have h:Row P w ad β H ai (f.map .p) d:=lS.2 v1;have o:Row P w ad β H sz (f.map .p) d:=by
    by_cases n:f.map AV.p=[]
    ·rw[n]at h⊢;rw[ib]at h⊢;exact h
    ·rw[<-sQ h hs n];exact h
   refine⟨d,o,iZ _ _,by simp[e8],fun w' q m j=>?_⟩;exact uL (G m o j) (cells w' q v3 m)
  |seq f=>
   simp[gL]at g;subst g;simp only[au,aA]at i;rcases i with⟨rfl,rfl⟩|⟨al,off,cap,ai,d,v1,v2,v3,v5,sp,E,rfl⟩
   ·exact⟨[],ib.2 rfl,by simp[aR],rfl,fun w' _ m j=>by simp[ey]⟩
   rcases E with rfl|rfl
   case inr=>
    obtain rfl:f=[]:=hz.1 (by omega);exact⟨[],ib.2 rfl,by simp[aR],rfl,fun w' _ m j=>by
     obtain rfl:m=0:=by simpa using j
     exact A2⟩
   have h:Row P w ad β H ai (f.map .p) d:=lS.2 v1;have o:Row P w ad β H sz (f.map .p) d:=by
    by_cases n:f.map AV.p=[]
    ·rw[n]at h⊢;rw[ib]at h⊢;exact h
    ·rw[<-sQ h hs n];exact h
   refine⟨d,o,iZ _ _,by simp[e8],fun w' q m j=>?_⟩;exact uL (G m o j) (cells w' q v3 m)
  |str s=>
   simp[gL]at g;subst g;simp only[au,aA]at i;obtain⟨bs,rfl,rfl⟩:=i;have N:sz=1\/bs.data.toList=[]:=by
    cases B:bs.data.toList with
    |nil=>exact .inr rfl
    |cons a r=>
     rw[B]at hs;simp[fc,aa,aL,bD]at hs;exact .inl hs.1.symm
   have h:Row P w ad β H sz ((bs.data.toList.map (·.toNat)).map fun c=>.p (.int .u8 (c:Nat))) (bs.data.toList.map fun c=>[hl .u8 c.toNat]):=by
    rcases N with rfl|B
    ·generalize bs.data.toList=l
     induction l with
     |nil=>exact ib.2 rfl
     |cons a r F=>exact qu.2 ⟨_,_,rfl,by simp[bf,aP],rfl,F⟩
    ·rw[B];exact ib.2 rfl
   refine⟨_,h,by rw[cG];intro v i;simp at i;obtain⟨a,_,rfl⟩:=i;simp[aC],by simp[e8],fun w' _ m _=>?_⟩;have e:((bs.data.toList.map fun c=>[hl .u8 c.toNat]).take m).flatten=(bs.data.toList.take m).map fun c=>hl .u8 c.toNat:=by
    rw[<-h2];generalize bs.data.toList.take m=l
    induction l with
    |nil=>rfl
    |cons a r F=>simp[F]
   rw[e];simp only[ey,ha];congr 1;apply b2;simp[ByteArray.data_extract]
  |_=>simp[gL]at g
 |sl b ar ai off len=>
  simp only[gL]at g
  split at g
  case h_2=>simp at g
  rename_i k T R f D
  split at g
  case isFalse=>simp at g
  rename_i hc;obtain⟨rfl,rfl,C⟩:=hc;simp at g;subst g;simp only[au,bK,bO]at i;obtain⟨_,v2,v3⟩:=i.2 k f D;have M:((f.drop off).take len).length=len:=by simp;omega
  by_cases A:cX k f
  ·rw[v2 A];have L:=A.2;subst L;simp at C;obtain⟨rfl,rfl⟩:=C;exact⟨[],ib.2 (by simp),by simp[aR],rfl,fun w' _ m j=>by simp[ey]⟩
  ·rw[v3 A];rcases I.cB b _ D with hold|⟨cs,Q,d,rest,k1,k2,k3,k4,k5,k6⟩
   ·exact(A hold).elim
   obtain⟨x,y,z,e1,e2,e3,e4,e5⟩:=jC k2 off len C;have o:Row P w ad β H sz ((f.drop off).take len) y:=by
    by_cases n:(f.drop off).take len=[]
    ·rw[n]at e2⊢;rw[ib]at e2⊢;exact e2
    ·rw[<-sQ e2 hs n];exact e2
   refine⟨y,o,?_,by rw[M];rfl,fun w' q m j=>?_⟩
   ·rw[cG];intro v i;exact cG.1 (I.refs b _ D) v (hR (hQ i))
   ·refine uL (G m o j) (cells w' q ?_ m);rw[<-e3];exact lM k1 (post:=z.flatten++rest) (by rw[k3,e1];simp)
 |_=>simp[gL]at g
theorem Vh{T X e:dg}{i:dq}{f:c9}{sz:Nat}(a:qq P T sz e i)(b:iu P X=true)(y:i.zero=some f)(A:dg){p:Option Addr}{sLen sCap n:Nat}{j h:Array c9}(x:c9)
 (hx:e8 x=pure n)(s:(ey sz sLen (.slice p sLen sCap)).run P w.drew=.ok j w.drew)(aQ:(ey sz n x).run P w.drew=.ok h w.drew)(q:sCap<sLen+n)(g:sLen+n<=cO):
 ∃cap,sLen+n<=cap/\(e6 #[T,X] A #[.slice p sLen sCap,x]).run P w=
  .ok (.slice (some ⟨w.heap.size,0,none⟩) (sLen+n) cap) {w.drew with heap:=w.heap.push (.cells (j++h++e9 f.cells (cap-(sLen+n))) e)}:=by
 refine⟨grownCap w (sLen+n) sCap e,by simp[grownCap,Question.cut],?_⟩;have o:∃d,P.underlying X=some d/\∀k,d≠.int k:=by
  unfold iu at b
  split at b
  ·simp at b
  ·rename_i d c v;exact⟨_,v,c⟩
  ·simp at b
 obtain⟨d,c,B⟩:=o;have r:¬(sLen+n<=sCap):=by omega
 have m:¬(9223372036854775807<((sLen:Int)+(n:Int))):=by unfold cO at g;omega
 have C:fb (sLen+n) sCap*i.bytes<=281474976710656:=by
  refine growslice_fits q ?_;have:=ih g (Nat.le_of_lt a.bytes);unfold cO at this;omega
 have l:¬(281474976710656<fb (sLen+n) sCap*i.bytes):=by omega
 have t:(sizeOf e).run P w=.ok sz w:=a.run w;have u:∀w:db,(typeInfo e).run P w=.ok i w:=fun w=>by simp[typeInfo,a.info]
 have z:∀w:db,(zeroValue e).run P w=.ok f w:=fun w=>by simp[zeroValue,typeInfo,a.info,y]
 simp[e6,c6 a.gv,c6 c,t,u,z,hx,r,m,l,Question.forced,s,aQ,newRow,grownCap,Array.append_assoc];rfl
theorem Iu{T X e:dg}{i:dq}{sz:Nat}(j:qq P T sz e i)(c:iu P X=true)(t:dg){g off:Nat}{sLen sCap n:Nat}{b:Array c9}{h:dg}{a:List c9}(x:c9)
 (hx:e8 x=pure n)(o:w.heap[g]?=some (.cells b h (0,0)))(aQ:(ey sz n x).run P w=.ok a.toArray w)(l:∀u∈a,u.oneCell'=true)(q:sLen+n<=sCap)(p:off+sLen*sz+a.length<=b.size):
 (e6 #[T,X] t #[.slice (some ⟨g,off,none⟩) sLen sCap,x]).run P w=
  .ok (.slice (some ⟨g,off,none⟩) (sLen+n) sCap) (w.setRow g (b.toList.take (off+sLen*sz)++a++b.toList.drop (off+sLen*sz+a.length)).toArray):=by
 have m:∃d,P.underlying X=some d/\∀k,d≠.int k:=by
  unfold iu at c
  split at c
  ·simp at c
  ·rename_i d f s;exact⟨_,s,f⟩
  ·simp at c
 obtain⟨d,f,v⟩:=m;have aB:=em P g (off+sLen*sz) h a 0 b w o (by simpa using p) l;simp only[h8]at aB;have r:(sizeOf e).run P w=.ok sz w:=j.run w;simp[e6,c6 j.gv,c6 f,r,hx,q,aQ,kj,aB]
theorem Ui{T X e:dg}{i:dq}{sz:Nat}(f:qq P T sz e i)(b:iu P X=true)(m:dg){p:Option Addr}{sLen sCap:Nat}(x:c9)
 (hx:e8 x=pure 0)(aQ:(ey sz 0 x).run P w=.ok #[] w)(g:sLen<=sCap):
 (e6 #[T,X] m #[.slice p sLen sCap,x]).run P w=.ok (.slice p sLen sCap) w:=by
 have j:∃d,P.underlying X=some d/\∀k,d≠.int k:=by
  unfold iu at b
  split at b
  ·simp at b
  ·rename_i d c l;exact⟨_,l,c⟩
  ·simp at b
 obtain⟨d,c,n⟩:=j;have h:(sizeOf e).run P w=.ok sz w:=f.run w;cases p with
 |none=>simp[e6,c6 f.gv,c6 c,h,hx,g,aQ]
 |some a=>simp[e6,c6 f.gv,c6 c,h,hx,g,aQ,storeCells]
theorem bR.drew{aD:Nat->Prop}{w1 w':db}{aH:Bd}{H':Heap}(a:w1.heap=w.heap)(b:w1.os=w.os/\w1.output=w.output)(h:bR P ah ad w1 β H aD w' aH H'):bR P ah ad w β H aD w' aH H':=
 ⟨h.bQ,h.fresh,⟨by rw[<-a];exact h.ext.size,fun k hk=>by rw[<-a];exact h.ext.same k hk,h.ext.io.1.trans b.1,h.ext.io.2.trans b.2⟩,h.step,h.rel,h.eQ,h.loop⟩
theorem Iv(z:Array c9)(n:Nat):(e9 z n).size=n*z.size:=by simp[e9]
theorem vD{ai:Nat}:∀{b:List AV}{a:List (List c9)},Row P w ad β H ai b a->∀c∈a.flatten,c.oneCell'=true
 |[],a,h=>by rw[ib]at h;subst h;simp
 |v::b,a,h=>by
  rw[qu]at h;obtain⟨c,cs,rfl,d,_,e⟩:=h;intro x hx;simp only[hB,hD]at hx;exact hx.elim (yF d x) (vD e x)
theorem Row.mono{w':db}{aD:Nat->Prop}{aH:Bd}{H':Heap}(hI:∀k,ad k->aD k)(hs:∀k,ad k->w'.heap[k]?=w.heap[k]?)(aB:b9 β H aH H'){ai:Nat}{a:List AV}{b:List (List c9)}(c:aR (aG H) a)
 (h:Row P w ad β H ai a b):Row P w' aD aH H' ai a b:=bJ.mono hI hs aB _ _ _ c h
theorem xG{c:Call}{s x:da}(e:o.op= .call c)(hc:c.callee= .builtin .append)(b:c.args.toList=[s,x]){a:da->c9}{w w':db}{v:c9}
 (h:(e6 c.argTypes o.type #[a s,a x]).run P w=.ok v w'):(dk a o).run P w=.ok (.value v) w':=by
 have d:c.args=#[s,x]:=by apply b2;simpa using b
 simp only[dk,e,resolve,hc,d];simp[invoke,builtin,h]
theorem VK{c:Call}{s x:da}(e:o.op= .call c)(hc:c.callee= .builtin .copy)(b:c.args.toList=[s,x]){a:da->c9}{w w':db}{v:c9}
 (h:(fl c.argTypes o.type #[a s,a x]).run P w=.ok v w'):(dk a o).run P w=.ok (.value v) w':=by
 have d:c.args=#[s,x]:=by apply b2;simpa using b
 simp only[dk,e,resolve,hc,d];simp[invoke,builtin,h]
end
end Go.aj
