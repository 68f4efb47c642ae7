import Derived.Test.YtenbmieafgdjaaaGreatDoorMThA
import Derived.RangeFuncRecord
import Derived.RangeFuncNested
import Derived.Lib.Strings
import Derived.Laws.Append
/- Parts of a proof. -/
set_option linter.unusedSimpArgs false
set_option linter.unusedVariables false
set_option linter.unusedSectionVars false
open Array renaming replicate->bo, getElem?_eq_some_iff->bv, range->b0, mem_toList_iff->b1, ext'->b2, getD_eq_getD_getElem?->b3, mapM_eq_mapM_toList->b4, mem_of_getElem?->b5, getElem?_toList->cb, getElem_toList->cc, foldl_toList->ce, toList_map->ck, getD->cv
open Bool renaming false_eq_true->cx, and_eq_true->cy
open Go renaming run_underlying->c6, Value->c9, Operand->da, World->db, TypeId->dg, execOp->dk, Program->dl, Deferred->dp, TypeInfo->dq, Frame->dz, ResultVar->ea, Steps->eb, Machine->ec, FuncId->ed, run_newObj->ee, setRow_other->ei, run_firstCells_some->ej, run_storeCells_at->em, IntKind->en, step_lone_go->eo, setRow_size->eq, setRow_heap->ew
open Go.Builtin renaming firstCells->e6, append_->e7, len_->e8, lenOf->e9, zeroCells->fb, nextslicecap->fl, copy_->fm
open Go.Instr renaming sliceBounds->fv, slice->fK, sureAddr->gb, sliceBound->gc, indexAt->ge, sliceAt->gg, fill->gi, build->gj
open Go.Op renaming operands->gm, unary->gt, intArith->gx, intBits->gy
open Go.Program renaming cellsOf->g0, underlying->g7, underlyingId->g8
open Go.Region renaming wanted->g9
open Go.Result renaming andThen_ok->ha
open Go.Sem renaming run_bind->hb, run_pure->hd, run_map->he, run->hg
open Go.Steps renaming one->hh, trans->hj, refl->hl
open Go.Value renaming oneCell'->hm, int->hn, cells->ho
open Go.World renaming putObj_heap_other->hp, size_alloc->hr
open List renaming getElem?_eq_some_iff->ht, replicate->hv, getElem?_set_self->hw, sum_replicate_nat->hy, take_replicate->hz, getElem?_eq_getElem->hA, length_eq_zero_iff->hB, getElem?_replicate->hC, flatten_cons->hD, append_assoc->hE, mem_append->hF, mem_of_getElem?->hG, getElem?_set_ne->hH, drop_take->hK, range'->hL, length->hM, mem_or_eq_of_mem_set->hN, getElem_append_right->hO, getElem_append_left->hP, eq_of_mem_replicate->hQ, getElem?_cons_succ->hR, mem_of_mem_take->hS, mem_of_mem_drop->hT, replicate_succ->hU, flatten_append->hV, mem_singleton->hW, getElem?_map->hX, length_cons->hZ, getElem_mem->h0, all_eq_true->h1, append_nil->h2, mapM_cons->h3, map_take->h4, map_cons->h5, mem_map->h6
open Nat renaming le_refl->h7, min_eq_left->h8, lt_irrefl->h9, add_zero->ih, add_sub_cancel_left->ii, mul_le_mul->ik, add_assoc->ip, add_mul->ix
open Option renaming isSome_iff_exists->iz, map_none->i0, bind_some->i1, map_some->i2
open Option.some renaming injEq->i3, inj->i4
open Prod renaming snd->i5, fst->i6
namespace Go.al
set_option linter.unusedSectionVars false
variable[Gl]
section
variable{P:dl}{ag:ed->Bool}{n N:Nat}
variable{fr:dz}{k:List Item}{cs:List dz}{ops:Array Oper}{i:Nat}{r:List Nat}{ds:List dp}
theorem Sl{o:Oper}{f:da}{a:Array da}{p:Array dg}{b:Nat}{H':Heap}{v:AV}{K:St->Prop}{s:St}{ah aa:Nat->Prop}{β:Bd}{t:Array c9}{w:db}
 (l:o.op=.call {callee:=.value f,args:=a,argTypes:=p})(hf:ev s.env f=.map b)(m:ic P b s.heap (a.toList.map (ev s.env)) H' v)(x:K ⟨put o.dst v s.env,H'⟩)
 (d:cN P n ah aa β s t w)(A:iI n o=true)(j:ops[i]?=some o)(D:g9 o (yielded ops t)=true):
 jP P n N fr k cs ops ah aa w β s.heap (lone (bA fr t ds (.inRegion ops (i::r)::k)) cs w) r ds K:=by
 have e:=(ny d f).1;rw[hf]at e;simp only[aw,bK,bO]at e;have B:=e.2.2 m.1;obtain⟨y,z⟩:=um d a.toList;have h:(dk (fq t) o).run P w=(Instr.yield (β.ak b) (a.toList.map (fq t)).toArray).run P w:=by
  simp only[dk,l,resolve,B,Deferred.ofValue,hb,hd,ha,invoke];congr 2;exact b2 (by simp)
 have C:∀c,o.op≠.defer c:=fun c hc=>by rw[l]at hc;cases hc
 obtain⟨g,tmps,assign,body,q,u⟩:=m.2 w aa ah β _ d.heap y z;rw[q]at h;obtain⟨E,w',aH,aE,g1,g2,g3,g4⟩:=u (bA fr t ds (.inRegion ops (i::r)::k)) cs;refine⟨_,aE,aH,_,w',x,?_,d.put A g2 g3 g4,g2.eU⟩;rw[<-mQ j];exact(hh (HF j D C h)).trans g1
theorem Ja(y:kU P ag){d:Bool}{o:Oper}{K:St->Prop}{s:St}{ah aa:Nat->Prop}{β:Bd}{t:Array c9}{w:db}
 (h:ji P ag d o K s)(a:cN P n ah aa β s t w)(c:iI n o=true)(j:ops[i]?=some o)(l:g9 o (yielded ops t)=true):
 jP P n N fr k cs ops ah aa w β s.heap (lone (bA fr t ds (.inRegion ops (i::r)::k)) cs w) r ds K:=by
 have E:=R3 h;have z:fp P ag o (ev s.env) s.heap (fun e=>K (e.app o.dst s))->jP P n N fr k cs ops ah aa w β s.heap (lone (bA fr t ds (.inRegion ops (i::r)::k)) cs w) r ds K:=by
  intro h;obtain⟨e,m,hs,aj,aJ⟩:=y o _ _ _ (fun v=>rfl) h;obtain⟨nx,I,w',aH,aE,A,B,u,C,D⟩:=hs.use a.heap (fun x _=>ny a x) aj (fun p F=>(aJ p F).1);exact⟨_,aE,aH,_,w',m,.one (rC j l E A B),a.put c u C D,u.eU⟩
 unfold ji at h
 split at h
 ·rename_i f args H q
  split at h
  ·rename_i g fi ca hf;exact Ht q (.inr ⟨fi,ca,hf,rfl,rfl⟩) h a c j l
  ·rename_i g fi ca hf;exact Ht q (.inl hf) h a c j l
  ·rename_i b hf;obtain⟨H',v,G,m⟩:=h;exact Sl q hf G m a c j l
  ·exact h.elim
 ·exact z h
theorem jP.mono{m:ec}{K a:St->Prop}{ah aa:Nat->Prop}{w:db}{β:Bd}{H:Heap}(h:jP P n N fr k cs ops ah aa w β H m r ds K)(hk:∀s,K s->a s):jP P n N fr k cs ops ah aa w β H m r ds a:=by
 obtain⟨s',aE,aH,t',w',b,c⟩:=h;exact⟨s',aE,aH,t',w',hk _ b,c⟩
theorem xd{s:St}{ah aa:Nat->Prop}{β:Bd}{t:Array c9}{w:db}(e:cN P n ah aa β s t w)(l:∀o∈ops.toList,iI n o=true)(j:Nat):
 (∀b,guardOf ops j s.env=.p (.bool b)->yielded ops t j=some b)/\(guardOf ops j s.env=.p (.aD [])->yielded ops t j=none):=by
 unfold guardOf yielded;cases k:ops[j]? with
 |none=>simp
 |some f=>
  simp only[i1];cases g:f.dst with
  |none=>simp
  |some d=>
   simp only[i1];have h:d<t.size:=by
    have:=l f (by rw[b1];exact b5 k);unfold iI at this;rw[g]at this;rw[e.size];simpa using this
   have a:=e.env d;have i:t[d]?=some (t.getD d undef):=by simp[cv,h]
   rw[i];constructor
   ·intro b c;rw[c]at a;simp only[aw,aA]at a;rw[a]
   ·intro c;rw[c]at a;simp only[aw,aA,bn]at a;obtain⟨xs,rfl,a⟩:=a;rw[a]
theorem H9(f:kU P ag){d:Bool}(x:∀o∈ops.toList,iI n o=true):∀(l:List Oper)(i:Nat){K:St->Prop}{s:St}{ah aa:Nat->Prop}{β:Bd}{t:Array c9}{w:db},
 ops.toList.drop i=l->gE P ag d ops l K s->cN P n ah aa β s t w->
 jP P n N fr k cs ops ah aa w β s.heap (lone (bA fr t ds (.inRegion ops (hL i l.length)::k)) cs w) [] ds K
 |[],i,K,s,ah,aa,β,t,w,v,h,a=>⟨s,aa,β,t,w,h,hl _ _,a,dI.refl _ _ _ _ _ _⟩
 |o::l,i,K,s,ah,aa,β,t,w,v,h,a=>by
  have e:ops[i]?=some o:=by
   have:(ops.toList.drop i)[0]?=some o:=by rw[v];rfl
   rw[List.getElem?_drop]at this;simpa using this
  have F:ops.toList.drop (i+1)=l:=by
   rw[<-List.drop_drop,v];rfl
  have u:iI n o=true:=x o (by rw[b1];exact b5 e);have g:∀{ah aa w β H}{m:ec},jP P n N fr k cs ops ah aa w β H m (hL (i+1) l.length) ds (gE P ag d ops l K)->jP P n N fr k cs ops ah aa w β H m [] ds K:=by
   intro ah aa w β H m E;obtain⟨s',aE,aH,L,w',A,B,C,D⟩:=E;obtain⟨s2,z,J,t2,I,g1,g2,g3,g4⟩:=H9 f x l (i+1) F A C;exact⟨s2,z,J,t2,I,g1,B.trans g2,g3,D.trans g4⟩
  rw[hZ,List.range'_succ]
  have skip:gE P ag d ops l K ⟨put o.dst (.p (.aD [])) s.env,s.heap⟩->g9 o (yielded ops t)=false->
   jP P n N fr k cs ops ah aa w β s.heap (lone (bA fr t ds (.inRegion ops (i::hL (i+1) l.length)::k)) cs w) [] ds K:=by
   intro hk G;refine g ⟨_,aa,β,_,w,hk,.one (Im e G),a.put u (bV.refl a.heap) (by simp[aw,aA,bn,undef]) (by simp[aB]),dI.refl _ _ _ _ _ _⟩
  simp only[gE]at h
  split at h
  ·rename_i c;exact g (Ja f h a u e (by simp[g9,c]))
  ·rename_i j M c;obtain⟨g1,g2⟩:=xd a x j
   split at h
   ·rename_i b q;have y:=g1 b q
    split at h
    ·rename_i r;exact g (Ja f h a u e (by simp[g9,c,y,r]))
    ·rename_i r;exact skip h (by simp[g9,c,y,r])
   ·rename_i q;exact skip h (by simp[g9,c,g2 q])
   ·exact h.elim
theorem az7{H:Heap}{b v:Nat}(h:H[b]?=none\/H[b]?=some .hole):¬aG H (b,v):=by
 rintro⟨o,a,c⟩;rcases h with h|h
 ·simp only at a;rw[h]at a;cases a
 ·simp only at a;rw[h]at a;cases a;exact c
theorem oO.step{s s':St}{β:Bd}(hf:oO s s'):ch β s.heap β s'.heap:=by
 refine⟨?_,?_,?_,?_,?_⟩
 ·rintro b _ ⟨fz,t,a⟩;rcases hf.heap b _ a with h|h|⟨_,k,z,h,_⟩|⟨v,v',h,_,_⟩
  ·cases h
  ·exact⟨⟨fz,t,h⟩,rfl⟩
  ·cases h
  ·exact⟨⟨_,_,h⟩,rfl⟩
 ·rintro b _ ⟨fz,t,a⟩;rcases hf.heap b _ a with h|h|⟨_,k,z,h,_⟩|⟨v,v',_,h,_⟩
  ·cases h
  ·exact⟨⟨fz,t,h⟩,rfl⟩
  ·cases h
  ·cases h
 ·rintro b _ ⟨o,a,c⟩;rcases hf.heap b _ a with h|h|⟨_,k,z,h,_⟩|⟨v,v',_,h,_⟩
  ·rw[h]at c;exact c.elim
  ·exact⟨⟨o,h,c⟩,rfl⟩
  ·rw[h]at c;exact c.elim
  ·rw[h]at c;exact c.elim
 ·intro b ar ai k d hi a;rcases hf.heap b _ a with h|h|⟨e,_⟩|⟨v,v',_,h,_⟩
  ·cases h
  ·exact⟨k,d,h,h7 _,Iff.rfl,fun _=>⟨rfl,rfl⟩⟩
  ·exact(az7 e hi).elim
  ·cases h
 ·rintro b _ ⟨L,a⟩;rcases hf.heap b _ a with h|h|⟨_,k,z,h,_⟩|⟨v,v',_,h,_⟩
  ·cases h
  ·exact⟨⟨L,h⟩,rfl⟩
  ·cases h
  ·cases h
section YN
variable{w:db}{aa:Nat->Prop}{β:Bd}{T:Heap}
theorem MK{b ar ai off len:Nat}(h:ar=0/\off=0/\len=0/\∃k z,T[b]?=some (.arr k 0 z [])/\k.gr=true):bK P β T (.sl b ar ai off len) (.slice none 0 0):=by
 obtain⟨rfl,rfl,rfl,k,z,c,d⟩:=h;refine⟨by simp[hm],fun f e a=>?_⟩;unfold eA at a;rw[c]at a;cases a;exact⟨by simp,fun _=>rfl,fun h=>(h ⟨d,rfl⟩).elim⟩
mutual
theorem fE.cells:∀(v:PV)(x:AV)(cs:List c9),fE T v x->aS P w aa v cs->bm P w aa β T x cs
 | .aF,x,cs,h,hc=>by
  simp only[fE]at h;rcases h with rfl|h
  ·simpa only[bm]using hc
  ·cases x<;>simp only at h<;>try exact h.elim
   simp only[aS]at hc;simp only[bm];exact⟨_,hc,MK h⟩
 | .st u fs,x,cs,h,hc=>by
  simp only[fE]at h;rcases h with rfl|h
  ·simpa only[bm]using hc
  ·cases x<;>simp only at h<;>try exact h.elim
   obtain⟨rfl,h⟩:=h;simp only[aS]at hc;obtain⟨l,a,d,e,f⟩:=hc;simp only[bm];exact⟨l,a,d,kq.cells l fs _ a h e,f⟩
 | .undef,x,cs,h,hc| .bool _,x,cs,h,hc| .int _ _,x,cs,h,hc| .str _,x,cs,h,hc| .dD,x,cs,h,hc| .cr _,x,cs,h,hc| .bI _ _,x,cs,h,hc| .seq _,x,cs,h,hc| .fo,x,cs,h,hc| .eK _,x,cs,h,hc| .func _ _ _,x,cs,h,hc| .gX,x,cs,h,hc| .fG,x,cs,h,hc| .aD _,x,cs,h,hc=>by
  simp only[fE]at h;subst h;simpa only[bm]using hc
theorem kq.cells:∀(l:List Nat)(fs:List PV)(b:List AV)(a:List (List c9)),kq T fs b->bc P w aa l fs a->bJ P w aa β T l b a
 |l,[],b,a,h,hc=>by
  simp only[kq]at h;subst h;cases l<;>simp_all [bJ,bc]
 |l,v::vs,b,a,h,hc=>by
  cases b with
  |nil=>simp[kq]at h
  |cons g b=>
   simp only[kq]at h;cases l with
   |nil=>simp[bc]at hc
   |cons n l=>
    simp only[bc]at hc;obtain⟨c,cs,d,e,f,i⟩:=hc;simp only[bJ];exact⟨c,cs,d,fE.cells v g c h.1 e,f,kq.cells l vs b cs h.2 i⟩
end
theorem fE.DP(v:PV)(x:AV)(y:c9)(h:fE T v x)(hc:aA P w aa v y):aw P w aa β T x y:=by
 cases v
 case aF=>
  simp only[fE]at h;rcases h with rfl|h
  ·simpa only[aw]using hc
  ·cases x<;>simp only at h<;>try exact h.elim
   simp only[aA]at hc;subst hc;simp only[aw];exact MK h
 case st u fs=>
  simp only[fE]at h;rcases h with rfl|h
  ·simpa only[aw]using hc
  ·cases x<;>simp only at h<;>try exact h.elim
   obtain⟨rfl,h⟩:=h;simp only[aA]at hc;obtain⟨l,a,b,c,d⟩:=hc;simp only[aw];exact⟨l,a,b,kq.cells l fs _ a h c,d⟩
 all_goals simp only[fE]at h;subst h;simpa only[aw]using hc
mutual
theorem Gh.cells:∀(v x:AV)(cs:List c9),Gh T v x->bm P w aa β T v cs->bm P w aa β T x cs
 | .p v,x,cs,h,hc=>by simp only[Gh]at h;simp only[bm]at hc;exact fE.cells v x cs h hc
 | .st u fs,x,cs,h,hc=>by
  simp only[Gh]at h;cases x<;>simp only at h<;>try exact h.elim
  obtain⟨rfl,h⟩:=h;simp only[bm]at hc⊢;obtain⟨l,a,d,e,f⟩:=hc;exact⟨l,a,d,lO.cells l fs _ a h e,f⟩
 | .ptr _ _,x,cs,h,hc| .b6 _ _ _ _ _,x,cs,h,hc| .sl _ _ _ _ _,x,cs,h,hc| .map _,x,cs,h,hc| .func _ _ _,x,cs,h,hc| .aD _,x,cs,h,hc=>by simp only[Gh]at h;subst h;exact hc
theorem lO.cells:∀(l:List Nat)(fs b:List AV)(a:List (List c9)),lO T fs b->bJ P w aa β T l fs a->bJ P w aa β T l b a
 |l,[],b,a,h,hc=>by simp only[lO]at h;subst h;exact hc
 |l,v::vs,b,a,h,hc=>by
  cases b with
  |nil=>simp[lO]at h
  |cons g b=>
   simp only[lO]at h;cases l with
   |nil=>simp[bJ]at hc
   |cons n l=>
    simp only[bJ]at hc⊢;obtain⟨c,cs,d,e,f,i⟩:=hc;exact⟨c,cs,d,Gh.cells v g c h.1 e,f,lO.cells l vs b cs h.2 i⟩
end
theorem Gh.DP(v x:AV)(y:c9)(h:Gh T v x)(hc:aw P w aa β T v y):aw P w aa β T x y:=by
 cases v
 case p v=>simp only[Gh]at h;simp only[aw]at hc;exact fE.DP v x y h hc
 case st u fs=>
  simp only[Gh]at h;cases x<;>simp only at h<;>try exact h.elim
  obtain⟨rfl,h⟩:=h;simp only[aw]at hc⊢;obtain⟨l,a,b,c,d⟩:=hc;exact⟨l,a,b,lO.cells l fs _ a h c,d⟩
 all_goals simp only[Gh]at h;subst h;exact hc
theorem fE.aL{v:PV}{x:AV}(h:fE T v x):ad x=al.aL v:=by
 cases v
 case aF=>
  simp only[fE]at h;rcases h with rfl|h
  ·rfl
  ·cases x<;>simp only at h<;>first|exact h.elim|rfl
 case st u fs=>
  simp only[fE]at h;rcases h with rfl|h
  ·rfl
  ·cases x<;>simp only at h<;>try exact h.elim
   simp[ad,al.aL,h.1]
 all_goals simp only[fE]at h;subst h;rfl
theorem Gh.aL{v x:AV}(h:Gh T v x):ad x=ad v:=by
 cases v
 case p v=>simp only[Gh]at h;exact h.aL
 case st u fs=>
  simp only[Gh]at h;cases x<;>simp only at h<;>try exact h.elim
  simp[ad,h.1]
 all_goals simp only[Gh]at h;subst h;rfl
end YN
theorem cX.eU{s s':St}{β:Bd}{ah aa:Nat->Prop}{w:db}(hf:cX N s s'):dI N ah aa w β s.heap ah aa w β s'.heap:=by
 rcases hf with rfl|hf
 ·exact dI.refl _ _ _ _ _ _
 ·exact⟨fun _ h=>h,fun _ h=>h,fun _ h=>.inl h,Ext.refl _ _ _,hf.1.step.n,fun x a⟨o,e,d⟩=>⟨o,by rw[hf.2 _ a];exact e,d⟩,fun b a⟨L,c⟩=>⟨L,by rw[hf.2 _ a];exact c⟩⟩
theorem oO.rel{s s':St}{ah aa:Nat->Prop}{β:Bd}{t:Array c9}{w:db}(hf:oO s s')(h:cN P n ah aa β s t w):cN P n ah aa β s' t w:=by
 have aK:ch β s.heap β s'.heap:=hf.step;refine⟨⟨?_,?_,hf.hrefs,h.heap.bR,h.heap.dS,h.heap.gV⟩,fun x=>?_,hf.gh,h.size⟩
 ·intro b o F;rcases hf.heap b o F with rfl|i|⟨_,k,z,rfl,hk⟩|⟨v,v',i,rfl,r⟩
  ·trivial
  rotate_left
  ·exact .inl ⟨hk,rfl⟩
  ·have d:=h.heap.cE b _ i;have g:=h.heap.refs b _ i;obtain⟨cs,T,a,c,e,l,D⟩:=d;exact⟨cs,T,a,Gh.cells _ _ _ r (bm.mono (fun _ x=>x) (fun _ _=>rfl) aK _ _ g c),e,(fun h=>by cases h),by rw[r.aL];exact D⟩
  ·have d:=h.heap.cE b o i;have g:=h.heap.refs b o i;cases o with
   |hole=>trivial
   |dead=>trivial
   |box fz t=>
    obtain⟨cs,T,a,c,e⟩:=d;exact⟨cs,T,a,bm.mono (fun _ x=>x) (fun _ _=>rfl) aK _ _ g c,e⟩
   |arr k ar ai es=>
    rcases d with d|⟨cs,T,B,rest,a,c,e⟩
    ·exact .inl d
    ·exact .inr ⟨cs,T,B,rest,a,bJ.mono (fun _ x=>x) (fun _ _=>rfl) aK _ _ _ g c,e⟩
   |map fz es=>exact d
   |dm ks vs=>
    obtain⟨C,clock,a,c,e,l⟩:=d;exact⟨C,clock,a,c,bw.mono (fun _ x=>x) (fun _ _=>rfl) aK _ _ g e,l⟩
   |dv s pos=>exact d
   |loop L=>
    obtain⟨tmps,defers,fn,a,c,e,l⟩:=d;exact⟨tmps,defers,fn,a,c,fun x=>aw.mono (fun _ x=>x) (fun _ _=>rfl) aK _ _ (g x) (e x),l⟩
 ·intro x y I J a c p q E f;have A:∀{z:Nat}{o:Obj},s'.heap[z]?=some o->o.live->∃o',s.heap[z]?=some o'/\o'.live:=by
   intro z o j m;rcases hf.heap z o j with rfl|j|⟨_,k,_,rfl,hk⟩|⟨v,v',j,_,_⟩
   ·exact m.elim
   ·exact⟨o,j,m⟩
   ·exact(m ⟨hk,rfl⟩).elim
   ·exact⟨_,j,trivial⟩
  obtain⟨G,a,p⟩:=A a p;obtain⟨H,c,q⟩:=A c q;exact h.heap.inj x y G H a c p q E f
 ·have u:=aw.mono (fun _ x=>x) (fun _ _=>rfl) aK _ _ (h.gh x) (h.env x);rcases hf.env x with f|f|f
  ·rw[f];exact u
  ·rw[f];simp[aw,aA]
  ·exact Gh.DP _ _ _ f u
theorem cX.rel{s s':St}{ah aa:Nat->Prop}{β:Bd}{t:Array c9}{w:db}(hf:cX N s s')(h:cN P n ah aa β s t w):cN P n ah aa β s' t w:=by
 rcases hf with rfl|hf
 ·exact h
 ·exact hf.1.rel h
def mq(P:dl)(fr:dz)(k:List Item)(cs:List dz)(m:ec)(t:Array c9)(ds:List dp)(w:db):bu->Prop
 | .normal=>eb P m (lone (bA fr t ds k) cs w)
 | .exit id=>∃a,exitTo id a=exitTo id k/\eb P m (lone (bA fr t ds (.code (.exit id)::a)) cs w)
 | .ret=>∃a,eb P m (lone (bA fr t ds (.code .ret::a)) cs w)
theorem mq.of_steps{m f:ec}{t:Array c9}{ds:List dp}{w:db}{e:bu}(h:eb P m f)(c:mq P fr k cs f t ds w e):mq P fr k cs m t ds w e:=by
 cases e with
 |normal=>exact h.trans c
 |exit id=>obtain⟨d,a,b⟩:=c;exact⟨d,a,h.trans b⟩
 |ret=>obtain⟨d,b⟩:=c;exact⟨d,h.trans b⟩
def mark(r:Nat):dp:={target:=.collected r,args:=#[]}
def Marks(fr:dz)(ah:Nat->Prop)(w:db)(jF aE:Nat->Prop)(w':db)(b c:List dp):Prop:=
 ∃a:List Nat,c=a.map mark++b/\a.Nodup/\(∀r∈a,w.heap.size<=r/\jF r/\¬aE r/\w'.heap[r]?=some (.deferred (some [])))/\(∀k,jF k->ah k\/k∈a)/\(fr.roundOf.isSome=true->a=[])
theorem Marks.refl(fr:dz)(ah aE:Nat->Prop)(w w':db)(ds:List dp):Marks fr ah w ah aE w' ds ds:=⟨[],rfl,List.nodup_nil,by simp,fun _ h=>.inl h,fun _=>rfl⟩
theorem Marks.trans{fr:dz}{N:Nat}{ah aa d e g f:Nat->Prop}{w w1 l:db}{β p B:Bd}{H H1 q:Heap}{ds m n:List dp}(h:Marks fr ah w d e w1 ds m)(i:dI N ah aa w β H d e w1 p H1)
 (s:Marks fr d w1 g f l m n)(j:dI N d e w1 p H1 g f l B q):Marks fr ah w g f l ds n:=by
 obtain⟨rs,rfl,t,o,u,v⟩:=h;obtain⟨A,rfl,g2,g3,g4,g5⟩:=s;refine⟨A++rs,by simp,?_,?_,?_,fun hx=>by simp[v hx,g5 hx]⟩
 ·rw[List.nodup_append];refine⟨g2,t,fun a i b y x=>?_⟩;subst x;have C:=(g3 a i).1;have D:=(bv.1 (o a y).2.2.2).1;omega
 ·intro r c;rcases hF.1 c with c|c
  ·obtain⟨k1,k2⟩:=g3 r c;exact⟨Nat.le_trans i.ext.size k1,k2⟩
  ·obtain⟨k1,k2,k3,k4⟩:=o r c;exact⟨k1,j.dS _ k2,fun hx=>(j.fresh _ hx).elim k3 (fun z=>z k2),(j.ext.same _ (.inl k2)).trans k4⟩
 ·intro k hk;rcases g4 k hk with hk|hk
  ·rcases u k hk with hk|hk
   ·exact .inl hk
   ·exact .inr (by simp[hk])
  ·exact .inr (by simp[hk])
def qg(N:Nat)(fr:dz)(β:Bd)(H:Heap):Prop:=∀l,fr.roundOf=some l->∃b,b<N/\gA H b/\β.ak b=l
theorem qg.eU{fr:dz}{β aH:Bd}{H H':Heap}{ah aa jF aE:Nat->Prop}{w w':db}(h:qg N fr β H)(e:dI N ah aa w β H jF aE w' aH H'):qg N fr aH H':=by
 intro l i;obtain⟨b,a,c,f⟩:=h l i;have d:=e.loop b a c;obtain⟨L,g⟩:=c;exact⟨b,a,d,((e.step.loop b a ⟨_,g,trivial⟩ d).2).trans f⟩
def pE(P:dl)(n N:Nat)(fr:dz)(k:List Item)(cs:List dz)(ah aa:Nat->Prop)(w:db)(β:Bd)(H:Heap)(m:ec)(c:List dp)(Q:bu->St->Prop):Prop:=
 ∃e s' jF aE aH b w' a,Q e s'/\mq P fr k cs m b a w' e/\cN P n jF aE aH s' b w'/\dI N ah aa w β H jF aE w' aH s'.heap/\Marks fr ah w jF aE w' c a
theorem pE.of{k:List Item}{ah aa:Nat->Prop}{w:db}{β:Bd}{H:Heap}{m:ec}{ds:List dp}{Q:bu->St->Prop}{e:bu}{s':St}{aE:Nat->Prop}{aH:Bd}{a:Array c9}{w':db}(hq:Q e s')(c:mq P fr k cs m a ds w' e)
 (d:cN P n ah aE aH s' a w')(b:dI N ah aa w β H ah aE w' aH s'.heap):pE P n N fr k cs ah aa w β H m ds Q:=⟨e,s',ah,aE,aH,a,w',ds,hq,c,d,b,Marks.refl _ _ _ _ _ _⟩
theorem pE.next{k:List Item}{ah aa b a:Nat->Prop}{w c:db}{β i:Bd}{H H1:Heap}{m g:ec}{d e:List dp}{Q:bu->St->Prop}(f:dI N ah aa w β H b a c i H1)(p:Marks fr ah w b a c d e)(aK:eb P m g)
 (h:pE P n N fr k cs b a c i H1 g e Q):pE P n N fr k cs ah aa w β H m d Q:=by
 obtain⟨e2,s2,l,j,r,t2,q,o,g1,g2,g3,g4,g5⟩:=h;exact⟨e2,s2,l,j,r,t2,q,o,g1,.of_steps aK g2,g3,f.trans g4,p.trans f g5 g4⟩
def codeOk(fit:Nat->Array Oper->Bool)(n:Nat):Code->Bool
 | .region _ ops draw=>ops.toList.all (iI n)&&(!draw||fit n ops)
 | .seq a b=>codeOk fit n a&&codeOk fit n b
 | .cond _ a b=>codeOk fit n a&&codeOk fit n b
 | .block _ b| .scope b| .loop b=>codeOk fit n b
 | .rangeFunc _ _ a b=>codeOk fit n a&&codeOk fit n b
 |_=>true
def rM(P:dl)(ag:ed->Bool)(fit:Nat->Array Oper->Bool):Prop:=
 ∀(n N:Nat)(a:Array Oper)(fr:dz)(k:List Item)(cs:List dz)(b:List dp)(c:Nat)(K:St->Prop)(s:St)(ah aa:Nat->Prop)(β:Bd)(t:Array c9)(w:db),
  fit n a=true->(∀o∈a.toList,iI n o=true)->fP P ag a a.toList 0 [] K s->cN P n ah aa β s t w->
  jP P n N fr k cs a ah aa w β s.heap (lone (bA fr t b (.inRegion a (Region.schedule (P.follows .mixedOrders) a c)::k)) cs w) [] b K
theorem cN.draw{s:St}{ah aa:Nat->Prop}{β:Bd}{t:Array c9}{w w':db}(a:w'.heap=w.heap)(h:cN P n ah aa β s t w):cN P n ah aa β s t w':=
 ⟨h.heap.uv a,fun x=>aw.mono (fun _ x=>x) (fun _ _=>by rw[a]) (ch.refl _ _) _ _ (h.gh x) (h.env x),h.gh,h.size⟩
section rf
variable{w w':db}{aa ah:Nat->Prop}{β:Bd}{H:Heap}
theorem bP.I5(h:bP P w aa β H ah){x:Nat}(hx:x<w.heap.size)(v:∀(b:Nat)(o:Obj),H[b]?=some o->o.live->β.ak b≠x):bP P w aa β H (fun k=>ah k\/k=x):=by
 refine⟨fun b o m=>?_,h.inj,h.refs,h.bR,fun k hk=>hk.elim (h.dS k) (fun e=>e▸hx),h.gV⟩;have held:∀fz,o.live->cw aa β ah fz b->cw aa β (fun k=>ah k\/k=x) fz b:=by
  intro fz j i;unfold cw at i⊢;cases fz with
  |true=>exact i
  |false=>exact⟨i.1,fun y=>y.elim i.2 (v b o m j)⟩
 have f:=h.cE b o m;cases o with
 |hole=>trivial
 |dead=>trivial
 |box fz t=>obtain⟨cs,T,a,c,d,g⟩:=f;exact⟨cs,T,a,c,held _ trivial d,g⟩
 |arr k ar ai es=>
  rcases f with f|⟨cs,T,n,rest,a,c,d,g,p,q,r,u⟩
  ·exact .inl f
  ·by_cases j:c7 k es
   ·exact .inl j
   ·exact .inr ⟨cs,T,n,rest,a,c,d,g,p,q,held _ j r,u⟩
 |map fz es=>obtain⟨l,clock,a,c,d⟩:=f;exact⟨l,clock,a,c,held _ trivial d⟩
 |dm ks vs=>obtain⟨l,clock,a,c,d,g⟩:=f;exact⟨l,clock,a,c,d,held _ trivial g⟩
 |dv s pos=>obtain⟨bs,a,c,d⟩:=f;exact⟨bs,a,c,held _ trivial d⟩
 |loop L=>obtain⟨tmps,defers,fn,a,c,d,g⟩:=f;exact⟨tmps,defers,fn,a,c,d,held _ trivial g⟩
theorem bP.shut(h:bP P w aa β H ah){Prot0:Nat->Prop}(q:∀k,Prot0 k->ah k){R:Nat->Prop}(m:∀x,R x->ah x/\¬aa x)(r:w'.heap.size=w.heap.size)(hs:∀k,¬R k->w'.heap[k]?=w.heap[k]?):bP P w' aa β H Prot0:=by
 have same:∀k,aa k->w'.heap[k]?=w.heap[k]?:=fun k hk=>hs k (fun i=>(m k i).2 hk);refine⟨fun b o p=>?_,h.inj,h.refs,fun k hk=>r▸h.bR k hk,fun k hk=>r▸h.dS k (q k hk),h.gV.mono (fun _ x=>x) same⟩;have held:∀fz,cw aa β ah fz b->cw aa β Prot0 fz b:=by
  intro fz f;unfold cw at f⊢;cases fz with
  |true=>exact f
  |false=>exact⟨f.1,fun A=>f.2 (q _ A)⟩
 have ak:∀fz,cw aa β ah fz b->w'.heap[β.ak b]?=w.heap[β.ak b]?:=by
  intro fz f;refine hs _ (fun i=>?_);unfold cw at f;cases fz with
  |true=>exact(m _ i).2 f
  |false=>exact f.2 (m _ i).1
 have g:=h.cE b o p;have j:=h.refs b o p;cases o with
 |hole=>trivial
 |dead=>trivial
 |box fz t=>obtain⟨cs,T,c,d,a,e⟩:=g;exact⟨cs,T,(ak _ a).trans c,bm.mono (fun _ x=>x) same (ch.refl _ _) _ _ j d,held _ a,e⟩
 |arr k ar ai es=>
  rcases g with g|⟨cs,T,u,rest,c,d,a,e,v,y,n,z⟩
  ·exact .inl g
  ·exact .inr ⟨cs,T,u,rest,(ak _ n).trans c,bJ.mono (fun _ x=>x) same (ch.refl _ _) _ _ _ j d,a,e,v,y,held _ n,z⟩
 |map fz es=>obtain⟨l,clock,c,d,a⟩:=g;exact⟨l,clock,(ak _ a).trans c,cz.mono (fun _ x=>x) same _ _ d,held _ a⟩
 |dm ks vs=>obtain⟨l,clock,c,d,a,e⟩:=g;exact⟨l,clock,(ak _ e).trans c,bn.mono (fun _ x=>x) same _ _ d,bw.mono (fun _ x=>x) same (ch.refl _ _) _ _ j a,held _ e⟩
 |dv s pos=>obtain⟨bs,c,d,a⟩:=g;exact⟨bs,(ak _ a).trans c,d,held _ a⟩
 |loop L=>obtain⟨tmps,defers,fn,c,d,a,e⟩:=g;exact⟨tmps,defers,fn,(ak _ e).trans c,d,fun x=>aw.mono (fun _ x=>x) same (ch.refl _ _) _ _ (j x) (a x),held _ e⟩
theorem B9(H:Heap)(o:Obj):(H++hv 1 Obj.hole).set H.length o=H++[o]:=by
 rw[List.set_append_right _ _ (h7 _)];simp
theorem J3(a:bP P w aa β H ah){L:fc}{tmps:Array c9}{defers fn:Nat}(h:tmps.size=L.n)(l:∀x,aw P w aa β H (aN L.env x) (tmps.getD x undef))(c:∀x,aB (aG H) (aN L.env x)):
 bV P ah aa w β H aa (w.alloc (.loop {state:=L.st,pending:=L.pending,fn,tmps,params:=L.params.toArray,assign:=L.assign,body:=L.body,defers})) (β.at H.length w.heap.size 0) (H++[.loop L]):=by
 have d:bV P ah aa w β H aa w β (H++hv 1 .hole):=⟨fun _ x=>x,fun _ x=>.inl x,Ext.refl _ _ _,nY _ _ _,a.mr _,lY _ _,fun b⟨L,e⟩=>⟨L,by rw[jI,if_pos (ht.1 e).1];exact e⟩⟩
 have f:(H++hv 1 Obj.hole)[H.length]?=some .hole:=by rw[jI];simp
 have aK:=(nY β H 1)
 have j:=xu (β:=β) f (.loop L) w.heap.size 0;have hrefs:∀x,aB (aG ((H++hv 1 Obj.hole).set H.length (.loop L))) (aN L.env x):=by
  intro x;rw[B9];exact aB.mono (fun y m=>IK m) _ (c x)
 have g:=rP (cap:=0) d.rel f (ob:=.loop {state:=L.st,pending:=L.pending,fn,tmps,params:=L.params.toArray,assign:=L.assign,body:=L.body,defers}) (o':=.loop L)
  ⟨tmps,defers,fn,by simp[Bd.at],h,fun x=>aw.mono (fun _ x=>x) (fun k hk=>ue w _ (a.bR k hk)) j _ _ (aB.mono (lY _ _) _ (c x)) (aw.mono (fun _ x=>x) (fun _ _=>rfl) aK _ _ (c x) (l x)),?_⟩ hrefs
 ·rw[B9]at g;exact d.trans g
 ·unfold cw;simp only[cx,if_false,Bd.at,if_true];exact⟨fun hi=>by have:=a.bR _ hi;omega,fun i=>by have:=a.dS _ i;omega⟩
theorem BC(g:bP P w aa β H ah){b:Nat}{L:fc}(a:H[b]?=some (.loop L))(st:LoopState)(d:Option Code):
 ∃rec:Loop,w.heap[β.ak b]?=some (.loop rec)/\rec.state=L.st/\rec.pending=L.pending/\rec.params=L.params.toArray/\rec.assign=L.assign/\rec.body=L.body/\rec.tmps.size=L.n/\(∀x,aw P w aa β H (aN L.env x) (rec.tmps.getD x undef))/\
  bV P ah aa w β H aa (w.putObj (β.ak b) (.loop {rec with state:=st,pending:=d})) β (H.set b (.loop {L with st:=st,pending:=d})):=by
 obtain⟨tmps,defers,fn,p,q,r,c⟩:=g.cE b _ a;refine⟨_,p,rfl,rfl,rfl,rfl,rfl,q,r,?_⟩;have v:=(bv.1 p).1;have s:=(ht.1 a).1;unfold cw at c;simp only[cx,if_false]at c;have aK:ch β H β (H.set b (.loop {L with st:=st,pending:=d})):=by
  have j:∀(x:Nat)(o:Obj),(H.set b (Obj.loop {L with st:=st,pending:=d}))[x]?=some o->(∀i,o≠Obj.loop i)->H[x]?=some o:=by
   intro x o m y
   by_cases hx:b=x
   ·subst hx;rw[hw s]at m;cases m;exact(y _ rfl).elim
   ·rwa [hH hx]at m
  refine⟨?_,?_,?_,?_,?_⟩
  ·rintro x _ ⟨f,t,h⟩;exact⟨⟨f,t,j _ _ h (by simp)⟩,rfl⟩
  ·rintro x _ ⟨f,t,h⟩;exact⟨⟨f,t,j _ _ h (by simp)⟩,rfl⟩
  ·rintro x _ ⟨z,h,l⟩;exact⟨⟨z,j _ _ h (fun i e=>by rw[e]at l;exact l.elim),l⟩,rfl⟩
  ·intro x ar ai k u _ h;exact⟨k,u,j _ _ h (by simp),h7 _,Iff.rfl,fun _=>⟨rfl,rfl⟩⟩
  ·rintro x _ ⟨i,h⟩;refine⟨?_,rfl⟩
   by_cases hx:b=x
   ·subst hx;exact⟨L,a⟩
   ·rw[hH hx]at h;exact⟨i,h⟩
 have aj:∀x,aG H x->aG (H.set b (Obj.loop {L with st:=st,pending:=d})) x:=lj a (fun _ _=>trivial);have same:∀k,aa k->(w.putObj (β.ak b) (.loop {state:=st,pending:=d,fn,tmps,params:=L.params.toArray,assign:=L.assign,body:=L.body,defers})).heap[k]?=w.heap[k]?:=fun k hk=>hp (fun e=>c.1 (e▸hk));refine bV.set g s (fun _ _=>⟨rfl,rfl⟩) (fun _ x=>x) (fun _ x=>.inl x) (fun k hk=>by simpa using g.bR k hk) (by simp)
  (fun k hk _=>hp (hk.resolve_right (fun h=>h trivial))) (fun _=>.inr ⟨rfl,⟨_,a,trivial⟩,.inr c.1,c.2⟩) aK
  ⟨tmps,defers,fn,World.putObj_heap_same v,q,fun x=>aw.mono (fun _ x=>x) same aK _ _ (g.refs b _ a x) (r x),?_⟩ (fun x=>aB.mono aj _ (g.refs b _ a x)) (fun _ _ _ _=>trivial) (fun _ _=>⟨_,rfl⟩)
 unfold cw;simpa using c
end rf
theorem TE{s:St}{ah aa:Nat->Prop}{β:Bd}{t:Array c9}{w:db}(c:cN P n ah aa β s t w)(F:qg N fr β s.heap)(e:Array Tmp)(a b:Code)(p:List dp){f:Env}(g:∀x,aN f x=aN s.env x):
 ∃l mk i m j,(Instr.enterLoop fr.fn t e a b fr.roundOf).run P w=.ok (l,mk) i/\bP P i aa j (s.heap++[.loop ⟨.ready,none,n,e.toList,a,b,f⟩]) m/\j.ak s.heap.length=l/\
  dI N ah aa w β s.heap m aa i j (s.heap++[.loop ⟨.ready,none,n,e.toList,a,b,f⟩])/\Marks fr ah w m aa i p (mk++p)/\
  ch β s.heap j (s.heap++[.loop ⟨.ready,none,n,e.toList,a,b,f⟩]):=by
 cases v:fr.roundOf with
 |none=>
  have q:bV P ah aa w β s.heap aa (w.alloc (.deferred (some []))) β s.heap:=c.heap.later (fun _ x=>x) (fun _ x=>.inl x) (fun k hk=>by have:=c.heap.bR k hk;rw[hr];omega) (by rw[hr];omega) (fun k hk=>ue w _ hk);have D:=q.rel.I5 (x:=w.heap.size) (by rw[hr];omega) (fun b o H G g=>by have:=c.heap.l7 H G;omega);have d:=J3 (L:=⟨.ready,none,n,e.toList,a,b,f⟩) (tmps:=t) (defers:=w.heap.size) (fn:=fr.fn) D c.size (fun x=>by rw[g];exact aw.mono (fun _ x=>x) (fun k hk=>ue w _ (c.heap.bR k hk)) (ch.refl _ _) _ _ (c.gh x) (c.env x)) (fun x=>by rw[g];exact c.gh x);have C:dI N ah aa w β s.heap (fun k=>ah k\/k=w.heap.size) aa (w.alloc (.deferred (some []))) β s.heap:=⟨fun _ h=>.inl h,fun _ h=>h,fun _ h=>.inl h,q.ext,(ch.refl _ _).n,fun _ _ h=>h,fun _ _ h=>h⟩
  refine⟨_,_,_,_,_,run_enterLoop_outer fr.fn t e a b,d.rel,?_,C.trans d.eU,?_,d.step⟩
  ·simp[Bd.at,hr]
  ·refine⟨[w.heap.size],rfl,by simp,?_,fun k hk=>hk.imp id (fun h=>by simp[h]),by simp[v]⟩;intro r u;simp only[hW]at u;subst u;refine⟨h7 _,.inr rfl,fun hi=>by have:=c.heap.bR _ hi;omega,?_⟩;exact(d.ext.same _ (.inl (.inr rfl))).trans (World.alloc_heap_new w _)
 |some I=>
  obtain⟨y,M,A,B⟩:=F I v;obtain⟨J,E⟩:=A;obtain⟨O,z,K,g1,_⟩:=c.heap.cE y _ E;rw[B]at g1;have d:=J3 (L:=⟨.ready,none,n,e.toList,a,b,f⟩) (tmps:=t) (defers:=z) (fn:=fr.fn) c.heap c.size (fun x=>by rw[g];exact c.env x) (fun x=>by rw[g];exact c.gh x);exact⟨_,_,_,_,_,run_enterLoop_inner g1 fr.fn t e a b,d.rel,by simp[Bd.at],d.eU,Marks.refl _ _ _ _ _ _,d.step⟩
theorem lV(M:kU P ag){fit:Nat->Array Oper->Bool}(K:rM P ag fit):∀(c:Code)(k:List Item){Q:bu->St->Prop}{s:St}{ah aa:Nat->Prop}{β:Bd}{t:Array c9}{w:db}{ds:List dp},
 codeOk fit n c=true->cd P ag (n,N) c Q s->cN P n ah aa β s t w->qg N fr β s.heap->pE P n N fr k cs ah aa w β s.heap (lone (bA fr t ds (.code c::k)) cs w) ds Q
 | .skip,k,Q,s,ah,aa,β,t,w,ds,_,h,i,_=>.of h (.one aC2:mq P fr k cs _ t ds w .normal) i (dI.refl _ _ _ _ _ _)
 | .label l,k,Q,s,ah,aa,β,t,w,ds,_,h,i,_=>.of h (.one U6:mq P fr k cs _ t ds w .normal) i (dI.refl _ _ _ _ _ _)
 | .exit id,k,Q,s,ah,aa,β,t,w,ds,_,h,i,_=>.of h (⟨k,rfl,hl _ _⟩:mq P fr k cs _ t ds w (.exit id)) i (dI.refl _ _ _ _ _ _)
 | .ret,k,Q,s,ah,aa,β,t,w,ds,_,h,i,_=>.of h (⟨k,hl _ _⟩:mq P fr k cs _ t ds w .ret) i (dI.refl _ _ _ _ _ _)
 | .region id ops draw,k,Q,s,ah,aa,β,t,w,ds,z,h,i,_=>by
  simp only[codeOk,cy,h1]at z;simp only[cd]at h;cases draw with
  |false=>
   simp only[cx,if_false]at h;obtain⟨s',aE,aH,az,w',j,r,q,d⟩:=H9 (fr:=fr) (k:=k) (cs:=cs) (ds:=ds) (N:=N) M z.1 ops.toList 0 (by simp) h i;refine .of (e:=.normal) j ?_ q d;have e:List.range ops.size=hL 0 ops.toList.length:=by rw[List.range_eq_range'];simp
   exact(hh QF).trans ((by rw[e];exact r:eb P _ _).trans (.one Gu))
  |true=>
   simp only[if_true]at h;have a3:cN P n ah aa β s t {w with drawn:=w.drawn+1}:=cN.draw (w:=w) (w':={w with drawn:=w.drawn+1}) rfl i;obtain⟨s',aE,aH,az,w',j,r,q,d⟩:=K n N ops fr k cs ds (w.tape w.drawn (.order fr.fn id)) _ s ah aa β t _ (by simpa using z.2) z.1 h a3;exact .of (e:=.normal) j ((hh aCW).trans (r.trans (.one Gu)):mq P fr k cs _ az ds w' .normal) q ⟨d.dS,d.bR,d.fresh,⟨d.ext.size,d.ext.same,d.ext.io⟩,d.step,d.eL,d.loop⟩
 | .seq a b,k,Q,s,ah,aa,β,t,w,ds,z,h,i,D=>by
  simp only[codeOk,cy]at z;simp only[cd]at h;obtain⟨e,s1,p,C,A,t1,o,E,j,r,q,d,B⟩:=lV M K a (.code b::k) z.1 h i D;cases e with
  |normal=>exact .next d B ((hh Co).trans r) (lV M K b k z.2 j q (D.eU d))
  |exit id=>
   obtain⟨F,O,a2⟩:=r;exact⟨.exit id,s1,p,C,A,t1,o,E,j,⟨F,O.trans (by simp[exitTo]),(hh Co).trans a2⟩,q,d,B⟩
  |ret=>
   obtain⟨F,a2⟩:=r;exact⟨.ret,s1,p,C,A,t1,o,E,j,⟨F,(hh Co).trans a2⟩,q,d,B⟩
 | .cond c a b,k,Q,s,ah,aa,β,t,w,ds,z,h,i,D=>by
  simp only[codeOk,cy]at z;simp only[cd]at h
  split at h
  ·rename_i aC aL;have ao:=(ny i c).1;rw[aL]at ao;simp only[aw,aA]at ao;have aK:=aCV (P:=P) (fr:=fr) (ds:=ds) (k:=k) (cs:=cs) (w:=w) (x:=a) (y:=b) ao;cases aC with
   |true=>exact .next (dI.refl N ah aa w β s.heap) (Marks.refl _ _ _ _ _ _) (.one (by simpa using aK)) (lV M K a k z.1 (by simpa using h) i D)
   |false=>exact .next (dI.refl N ah aa w β s.heap) (Marks.refl _ _ _ _ _ _) (.one (by simpa using aK)) (lV M K b k z.2 (by simpa using h) i D)
  ·exact h.elim
 | .block id b,k,Q,s,ah,aa,β,t,w,ds,z,h,i,D=>by
  simp only[codeOk]at z;simp only[cd]at h;obtain⟨e,s1,p,C,A,t1,o,E,j,r,q,d,B⟩:=lV M K b (.inBlock id::k) z h i D;cases e with
  |normal=>exact⟨.normal,s1,p,C,A,t1,o,E,j,(hh xE).trans (r.trans (.one TN)),q,d,B⟩
  |exit ad=>
   obtain⟨F,O,a2⟩:=r;dsimp only at j
   split at j
   ·rename_i hid;subst hid;refine⟨.normal,s1,p,C,A,t1,o,E,j,(hh xE).trans (a2.trans (.one (aCX ?_))),q,d,B⟩;rw[O];simp[exitTo]
   ·rename_i hid;exact⟨.exit ad,s1,p,C,A,t1,o,E,j,⟨F,O.trans (by simp[exitTo,Ne.symm hid]),(hh xE).trans a2⟩,q,d,B⟩
  |ret=>
   obtain⟨F,a2⟩:=r;exact⟨.ret,s1,p,C,A,t1,o,E,j,⟨F,(hh xE).trans a2⟩,q,d,B⟩
 | .scope b,k,Q,s,ah,aa,β,t,w,ds,z,h,i,D=>by
  simp only[codeOk]at z;simp only[cd]at h;obtain⟨e,s1,p,C,A,t1,o,E,j,r,q,d,B⟩:=lV M K b (.inScope b::k) z h i D;cases e with
  |normal=>exact⟨.normal,s1,p,C,A,t1,o,E,j,(hh Bn).trans (r.trans (.one TM)),q,d,B⟩
  |exit ad=>
   obtain⟨F,O,a2⟩:=r;exact⟨.exit ad,s1,p,C,A,t1,o,E,j,⟨F,O.trans (by simp[exitTo]),(hh Bn).trans a2⟩,q,d,B⟩
  |ret=>
   obtain⟨F,a2⟩:=r;exact⟨.ret,s1,p,C,A,t1,o,E,j,⟨F,(hh Bn).trans a2⟩,q,d,B⟩
 | .loop b,k,Q,s,ah,aa,β,t,w,ds,z,h,i,D=>by
  simp only[codeOk]at z;simp only[cd]at h;obtain⟨I,⟨m0,t0,hf,hI⟩,a5⟩:=h
  have loop:∀(m:Nat)(u:St)(ah aa:Nat->Prop)(β:Bd)(t:Array c9)(w:db)(ds:List dp),I m u->cN P n ah aa β u t w->qg N fr β u.heap->
   pE P n N fr k cs ah aa w β u.heap (lone (bA fr t ds (.code b::.inLoop b::k)) cs w) ds Q:=by
   intro m
   induction m using Nat.strongRecOn with
   |_ m a8=>
    intro u ah aa β t w ds hI i D;obtain⟨e,s1,p,C,A,t1,o,E,j,r,q,d,B⟩:=lV M K b (.inLoop b::k) z (a5 m u hI) i D;cases e with
    |normal=>
     obtain⟨a9,u',a0,ar,aD⟩:=j;have ac:=ar.eU (β:=A) (ah:=p) (aa:=C) (w:=o);exact .next (d.trans ac) B (hj r (.one Ua)) (a8 a9 a0 u' p C A t1 o E aD (ar.rel q) ((D.eU d).eU ac))
    |exit ad=>
     obtain⟨F,O,a2⟩:=r;exact⟨.exit ad,s1,p,C,A,t1,o,E,j,⟨F,O.trans (by simp[exitTo]),a2⟩,q,d,B⟩
    |ret=>
     obtain⟨F,a2⟩:=r;exact⟨.ret,s1,p,C,A,t1,o,E,j,⟨F,a2⟩,q,d,B⟩
  have ac:=hf.eU (β:=β) (ah:=ah) (aa:=aa) (w:=w);exact .next ac (Marks.refl _ _ _ _ _ _) (.one aC0) (loop m0 t0 ah aa β t w ds hI (hf.rel i) (D.eU ac))
 | .rangeFunc f G a b,k,Q,s,ah,aa,β,t,w,ds,z,h,i,D=>by
  simp only[cd]at h;obtain⟨be,R,aV,h⟩:=h;have Y:=ny i f
  obtain⟨g,fi,ca,J,H,aX,aW,aO,av,au,ab,v,aY,af⟩:∃g fi ca,∃J H:List c9,fq t f= .func (.func g) J.toArray H.toArray/\bw P w aa β s.heap fi J/\bw P w aa β s.heap ca H/\aQ (aG s.heap) fi/\aQ (aG s.heap) ca/\
   ∃ab v,b9 P g (s.heap++[.loop ⟨.ready,none,n,G.toList,a,b,R⟩]) (fi++[.map s.heap.length]++ca) ab v/\iF s.heap.length s.env Q ab:=by
   unfold ju at h
   split at h
   ·rename_i g fi ca hf;rw[hf]at Y;simp only[aw,aA]at Y;obtain⟨⟨J,H,j,r,q⟩,_⟩:=Y;exact⟨g,_,_,J,H,q,jf.2 j,jf.2 r,iM _ _,iM _ _,h⟩
   ·rename_i g fi ca hf;rw[hf]at Y;simp only[aw,aB]at Y;obtain⟨⟨J,H,j,r,q⟩,d,B⟩:=Y;exact⟨g,fi,ca,J,H,q,j,r,d,B,h⟩
   ·exact h.elim
  obtain⟨l,mk,o,p,A,e1,e2,e3,e4,e5,ai⟩:=TE (fr:=fr) i D G a b ds aV;obtain⟨aT,aP⟩:=aY;have aj:∀x,aG s.heap x->aG (s.heap++[.loop ⟨.ready,none,n,G.toList,a,b,R⟩]) x:=fun x hx=>IK hx;have an:∀k,aa k->o.heap[k]?=w.heap[k]?:=fun k hk=>e4.ext.same k (.inr hk);have a6:aw P o aa A (s.heap++[.loop ⟨.ready,none,n,G.toList,a,b,R⟩]) (.map s.heap.length) (.func (.yield l) #[] #[]):=by
   simp only[aw,bK,bO];refine⟨by simp[hm],fun W=>?_,fun _=>by rw[e3]⟩;obtain⟨bg,ap,W⟩:=W;simp at ap;subst ap;exact W.elim
  have a7:aB (aG (s.heap++[.loop ⟨.ready,none,n,G.toList,a,b,R⟩])) (.map s.heap.length):=by
   simp only[aB];exact⟨.loop ⟨.ready,none,n,G.toList,a,b,R⟩,by simp,trivial⟩
  have aJ:=n6 (n6 (bw.mono (fun _ x=>x) an ai _ _ av aW) (b:=[.map s.heap.length]) (y:=[.func (.yield l) #[] #[]]) (by simp only[bw];exact⟨_,_,rfl,a6,rfl⟩)) (bw.mono (fun _ x=>x) an ai _ _ au aO);have aI:=jo (jo (aQ.mono aj _ av) (b:=[.map s.heap.length]) (by simp only[aQ];exact⟨a7,trivial⟩)) (aQ.mono aj _ au);have aZ:(invoke (.fn (.func g) H.toArray) (J.toArray++#[.func (.yield l) #[] #[]])).run P o=.ok (.enter g (J++[(.func (.yield l) #[] #[]:c9)]++H).toArray) o:=by
   have:=aT (J++[(.func (.yield l) #[] #[]:c9)]++H).toArray o;simp only[invoke];rw[<-this];congr 2;simp
  have a4:(resolve (Act.eval ⟨t,ds⟩) (rangeCall f l) 0).run P o=.ok (⟨.fn (.func g) H.toArray,J.toArray++#[.func (.yield l) #[] #[]]⟩:dp) o:=by
   have al:(Act.eval ⟨t,ds⟩) f=fq t f:=by cases f<;>rfl
   have aR:(rangeCall f l).args.map (Act.eval ⟨t,ds⟩)=#[.func (.yield l) #[] #[]]:=by simp[Act.eval]
   simp only[resolve,aR];simp only[al,aX,Deferred.ofValue];rfl
  have aU:=stepR_rangeFunc (P:=P) (b:=fr) (a:=⟨t,ds⟩) (k:=k) (cs:=cs) (w:=w) (g:=f) (ps:=G) (assign:=a) (body:=b) e1 a4 aZ;obtain⟨e,ae,bd,⟨bc,X,U,al,g1,g2,g3⟩,aK,bf,a1⟩:=aP o aa p A _ e2 aJ aI (fr.atR ⟨t,mk++ds⟩ (.inRangeFunc l::k)::cs);subst al;unfold iF at af
  split at af
  case h_2=>exact af.elim
  rename_i L aq;obtain⟨aN,Z⟩:=af;obtain⟨rec,ax,ba,bb,bh,bi,bj,bk,bl,ay⟩:=BC g1.rel aq .exhausted L.pending;have aF:aG (s.heap++[.loop ⟨.ready,none,n,G.toList,a,b,R⟩]) (s.heap.length,0):=⟨.loop ⟨.ready,none,n,G.toList,a,b,R⟩,by simp,trivial⟩
  have aM:X.ak s.heap.length=l:=((g1.step.loop _ aF ⟨_,aq⟩).2).trans e3;rw[aM]at ax ay;have aS:=run_endLoop (P:=P) ax (by rw[ba];exact aN);have S:eb P (lone (bA fr t ds (.code (.rangeFunc f G a b)::k)) cs w) (lone (bA fr t (mk++ds) ((rec.pending.map Item.code).toList++k)) cs (ae.putObj l (.loop {rec with state:=.exhausted}))):=by
   refine(hh aU).trans (hj aK ?_);refine(hh (step_leave_returned a1)).trans ?_;rw[finish_atR_inRangeFunc];exact .one (stepR_endRangeFunc aS)
  have S:eb P (lone (bA fr t ds (.code (.rangeFunc f G a b)::k)) cs w) (lone (bA fr t (mk++ds) ((L.pending.map Item.code).toList++k)) cs (ae.putObj l (.loop {rec with state:=.exhausted,pending:=L.pending}))):=by
   rw[<-bb];exact S
  have V:bV P p aa o A (s.heap++[.loop ⟨.ready,none,n,G.toList,a,b,R⟩]) U _ X _:=g1.trans ay;have am:cN P n p U X ⟨s.env,ab.set s.heap.length (.loop {L with st:=.exhausted})⟩ t (ae.putObj l (.loop {rec with state:=.exhausted,pending:=L.pending})):=by
   refine⟨V.rel,fun x=>?_,fun x=>?_,i.size⟩
   ·exact aw.mono V.bR (fun k hk=>V.ext.same k (.inr hk)) V.step _ _ (aB.mono aj _ (i.gh x)) (aw.mono (fun _ x=>x) an ai _ _ (i.gh x) (i.env x))
   ·exact aB.mono V.eL _ (aB.mono aj _ (i.gh x))
  have ak:dI N ah aa w β s.heap p U (ae.putObj l (.loop {rec with state:=.exhausted,pending:=L.pending})) X (ab.set s.heap.length (.loop {L with st:=.exhausted})):=e4.trans V.eU;have W:Marks fr ah w p U (ae.putObj l (.loop {rec with state:=.exhausted,pending:=L.pending})) ds (mk++ds):=e5.trans e4 (Marks.refl _ _ _ _ _ _) V.eU;unfold jR at Z
  split at Z
  ·rename_i T;rw[T]at S;exact⟨.normal,_,p,U,X,t,_,mk++ds,Z,by rw[T];exact S,am,ak,W⟩
  ·rename_i id T;rw[T]at S;exact⟨.exit id,_,p,U,X,t,_,mk++ds,Z,⟨k,rfl,by rw[T];exact S⟩,am,ak,W⟩
  ·rename_i T;rw[T]at S;exact⟨.ret,_,p,U,X,t,_,mk++ds,Z,⟨k,by rw[T];exact S⟩,am,ak,W⟩
  ·exact Z.elim
 | .goto _,_,_,_,_,_,_,_,_,_,_,h,_,_| .refuse _,_,_,_,_,_,_,_,_,_,_,h,_,_=>by simp[cd]at h
end
end Go.al
namespace Go.al
variable[Gl]
def iu(i:Nat):List AV->Env
 |[]=>[]
 |v::r=>(i,v)::iu (i+1) r
def oM(P:dl)(s:St):ea->Option AV
 | .tmp t=>some (aN s.env t)
 | .cell a T=>match aN s.env a with
  | .ptr b path=>match s.heap[b]? with
   |some (.box _ t)=>match eD t path with
    |some v=>if kindOf P T=ad v then some v else none
    |none=>none
   |_=>none
  |_=>none
def fu(P:dl)(s:St):List ea->Option (List AV)
 |[]=>some []
 |r::rs=>match oM P s r,fu P s rs with
  |some v,some vs=>some (v::vs)
  |_,_=>none
def oneOf:List AV->AV
 |[v]=>v
 |vs=>match eB vs with
  |some l=>.p (.aD l)
  |none=>.aD vs
def jy(f:AV->Option PV):List AV->Option (List PV)
 |[]=>some []
 |v::vs=>match f v,jy f vs with
  |some p,some a=>some (p::a)
  |_,_=>none
def dY(H:Heap):Nat->AV->Option PV
 |0,.p v=>some v
 |0,_=>none
 |n+1,x=>match x with
  | .p v=>some v
  | .sl b ar ai off len=>match H[b]? with
   |some (.arr k e c es)=>
    if ar=e/\ai=c/\off+len<=es.length then
     if k.gr=true/\es=[]then some .aF else
     match jy (dY H n) ((es.drop off).take len)with
     |some d=>some (.bI (k== .exact&&off+len==es.length) d)
     |none=>none
    else none
   |_=>none
  | .ptr b path=>match H[b]? with
   |some (.box _ t)=>match eD t path with
    |some s=>match dY H n s with
     |some p=>some (.cr p)
     |none=>none
    |none=>none
   |_=>none
  | .map b=>match H[b]? with
   |some (.map _ es)=>some (.eK es)
   |_=>none
  | .func f fi ca=>match jy (dY H n) fi,jy (dY H n) ca with
   |some a,some b=>some (.func f a b)
   |_,_=>none
  | .st u fs=>match jy (dY H n) fs with
   |some l=>some (.st u l)
   |none=>none
  | .aD vs=>match jy (dY H n) vs with
   |some l=>some (.aD l)
   |none=>none
  | .b6 _ _ _ _ _=>none
section
variable{P:dl}{w:db}{aa ah:Nat->Prop}{β:Bd}{H:Heap}
def CJ(aa:Nat->Prop)(β:Bd)(H:Heap)(k:Nat):Prop:=aa k\/∃(b:Nat)(o:Obj),H[b]?=some o/\o.live/\β.ak b=k
theorem I4:∀{n:Nat}{v:AV}{p:PV},dY H n v=some p->(ad v=aL p)
 |0,v,p,h=>by
  cases v<;>simp[dY]at h;subst h;rfl
 |n+1,v,p,h=>by
  cases v<;>simp only[dY]at h
  case p v=>simp at h;subst h;rfl
  case b6=>simp at h
  case sl b ar ai off len=>
   split at h
   ·split at h
    ·split at h
     ·simp at h;subst h;rfl
     ·split at h
      ·simp at h;subst h;rfl
      ·simp at h
    ·simp at h
   ·simp at h
  case ptr b path=>
   split at h
   ·split at h
    ·split at h
     ·simp at h;subst h;rfl
     ·simp at h
    ·simp at h
   ·simp at h
  all_goals
   split at h
   ·simp at h;subst h;rfl
   ·simp at h
theorem Hz{v:AV}{p:PV}{cs:List c9}(hs:ad v=aL p)(hc:bm P w aa β H v cs){I:Nat->Prop}(h:∀x,aw P w aa β H v x->aA P w I p x):aS P w I p cs:=by
 cases a:ad v with
 |bad=>exact((ng hc).2 a).elim
 |leaf=>
  obtain⟨c,rfl,b⟩:=(Bu a cs).1 hc;exact(rS (hs▸a) _).2 ⟨c,rfl,h _ b⟩
 |agg u=>exact(uP (hs▸a) cs).2 (h _ ((Lu a cs).1 hc))
section lists
variable{f:AV->Option PV}{I:Nat->Prop}(hf:∀v p,f v=some p->ad v=aL p/\(aB (aG H) v->∀x,aw P w aa β H v x->aA P w I p x))
include hf
theorem xo:∀{vs:List AV}{a:List PV},jy f vs=some a->aQ (aG H) vs->∀b,bw P w aa β H vs b->bn P w I a b
 |[],a,h,_,b,hx=>by
  simp[jy]at h;subst h;simpa[bw,bn]using hx
 |v::vs,a,h,c,b,hx=>by
  simp only[jy]at h
  split at h
  case h_2=>simp at h
  rename_i q qs hq d;simp at h;subst h;simp only[aQ]at c;simp only[bw]at hx;obtain⟨y,e,rfl,k1,k2⟩:=hx;simp only[bn];exact⟨y,e,rfl,(hf _ _ hq).2 c.1 _ k1,xo d c.2 _ k2⟩
theorem AE:∀{vs:List AV}{b:List PV},jy f vs=some b->aQ (aG H) vs->∀l a,bJ P w aa β H l vs a->bc P w I l b a
 |[],b,h,_,l,a,hx=>by
  simp[jy]at h;subst h;cases l<;>simp_all [bJ,bc]
 |v::vs,b,h,d,l,a,hx=>by
  simp only[jy]at h
  split at h
  case h_2=>simp at h
  rename_i q qs hq e;simp at h;subst h;simp only[aQ]at d;cases l with
  |nil=>simp[bJ]at hx
  |cons m l=>
   simp only[bJ]at hx;obtain⟨c,cs,rfl,k1,k2,k3⟩:=hx;simp only[bc];exact⟨c,cs,rfl,Hz (hf _ _ hq).1 k1 ((hf _ _ hq).2 d.1),k2,AE e d.2 _ _ k3⟩
end lists
theorem wZ(e:bP P w aa β H ah):∀(n:Nat)(v:AV)(p:PV),dY H n v=some p->aB (aG H) v->∀x,aw P w aa β H v x->aA P w (CJ aa β H) p x
 |0,v,p,h,_,x,hx=>by
  cases v<;>simp[dY]at h;subst h;simp only[aw]at hx;exact aA.mono (fun _=>.inl) (fun _ _=>rfl) _ _ hx
 |n+1,v,p,h,g,x,hx=>by
  have hf:∀v p,dY H n v=some p->ad v=aL p/\(aB (aG H) v->∀x,aw P w aa β H v x->aA P w (CJ aa β H) p x):=fun v p h=>⟨I4 h,wZ e n v p h⟩
  cases v<;>simp only[dY]at h
  case p v=>
   simp at h;subst h;simp only[aw]at hx;exact aA.mono (fun _=>.inl) (fun _ _=>rfl) _ _ hx
  case b6=>simp at h
  case sl b ar ai off len=>
   split at h
   case h_2=>simp at h
   rename_i k ae Y y d
   split at h
   case isFalse=>simp at h
   rename_i L;obtain⟨rfl,rfl,z⟩:=L;simp only[aw]at hx;obtain⟨_,hx⟩:=hx;simp only[bO]at hx;obtain⟨v1,v2,v3⟩:=hx k y d
   split at h
   ·rename_i r;simp at h;subst h;simp[aA,v2 r]
   ·rename_i r
    split at h
    case h_2=>simp at h
    rename_i W O;simp at h;subst h;rw[v3 r];rcases e.cE b _ d with hold|⟨cs,T,C,rest,i,j,B,G,Z,I,ab,ac⟩
    ·exact(r hold).elim
    obtain⟨a,m,c,e1,e2,e3,e4,e5⟩:=jq j off len v1;have R:aQ (aG H) ((y.drop off).take len):=by
     have:=e.refs b _ d;rw[cG];intro v S;exact cG.1 this v (hT (hS S))
    have M:((y.drop off).take len).length=len:=by simp;omega
    have k1:=AE hf O R _ _ e2;have A:W.length=len:=by have:=(tU k1).2.1;simp at this;omega
    simp only[aA];refine⟨β.ak b,off*ai,β.cap b-off,ai,m,by rw[A,<-M];exact k1,fun _=>.inr ⟨b,_,d,r,rfl⟩,?_,?_,?_,none,.inl rfl,?_⟩
    ·rw[<-e3];exact kW i (post:=c.flatten++rest) (by rw[B,e1];simp)
    ·intro hf;simp at hf;rw[A,I hf.1];omega
    ·rw[A];omega
    ·rw[A]
  case ptr b path=>
   split at h
   case h_2=>simp at h
   rename_i fz t d
   split at h
   case h_2=>simp at h
   rename_i s hs
   split at h
   case h_2=>simp at h
   rename_i q hq;simp at h;subst h;simp only[aw]at hx;obtain⟨_,hx⟩:=hx;simp only[bO]at hx;obtain⟨X,V,o,rfl,N,hx⟩:=hx;obtain⟨rfl,rfl⟩:=hx (.inl ⟨fz,_,d⟩);obtain⟨cs,T,i,j,B,G⟩:=e.cE b _ d;obtain⟨pre,xs,post,e1,e2,e3,_⟩:=oB j hs N;have Q:aB (aG H) s:=ur hs (e.refs b _ d);simp only[aA];refine⟨β.ak b,V,xs,Hz (I4 hq) e3 (wZ e n _ _ hq Q),.inr ⟨b,_,d,trivial,rfl⟩,?_,rfl⟩;rw[<-e2];exact kW i e1
  case map b=>
   split at h
   case h_2=>simp at h
   rename_i fz y d;simp at h;subst h;simp only[aw]at hx;obtain⟨_,hx⟩:=hx;simp only[bO]at hx;have hx:=hx.1 ⟨_,d,trivial⟩;obtain⟨E,clock,i,j,B⟩:=e.cE b _ d;simp only[aA];exact⟨β.ak b,E,clock,.inr ⟨b,_,d,trivial,rfl⟩,i,cz.mono (fun _=>.inl) (fun _ _=>rfl) _ _ j,hx⟩
  case func f a b=>
   split at h
   case h_2=>simp at h
   rename_i a' b' J K;simp at h;subst h;simp only[aB]at g;simp only[aw]at hx;obtain⟨F,D,k1,k2,k3⟩:=hx;simp only[aA];exact⟨F,D,xo hf J g.1 _ k1,xo hf K g.2 _ k2,k3⟩
  case st u fs=>
   split at h
   case h_2=>simp at h
   rename_i l z;simp at h;subst h;simp only[aB]at g;simp only[aw]at hx;obtain⟨U,C,k1,k2,k3⟩:=hx;simp only[aA];exact⟨U,C,k1,AE hf z g _ _ k2,k3⟩
  case aD vs=>
   split at h
   case h_2=>simp at h
   rename_i l z;simp at h;subst h;simp only[aB]at g;simp only[aw]at hx;obtain⟨xs,k1,k2⟩:=hx;simp only[aA];exact⟨xs,xo hf z g _ k1,k2⟩
end
section
variable{P:dl}{ag:ed->Bool}{fit:Nat->Array Oper->Bool}
theorem AA:∀(args:List AV)(i x:Nat),aN (iu i args) x=if i<=x then(args[x-i]?).getD (.p .undef)else .p .undef
 |[],i,x=>by simp[iu,aN]
 |v::r,i,x=>by
  simp only[iu,aN,AA r]
  by_cases h:x=i
  ·subst h;simp
  ·by_cases b:i<=x
   ·have a:i+1<=x:=by omega
    simp only[h,b,a,if_true,if_false];rw[show x-i=(x-(i+1))+1 by omega,hR]
   ·have a:¬i+1<=x:=by omega
    simp[h,b,a]
theorem rT{w:db}{aa:Nat->Prop}{β:Bd}{H:Heap}:∀{vs:List AV}{xs:List c9},bw P w aa β H vs xs->xs.length=vs.length/\∀i:Nat,aw P w aa β H ((vs[i]?).getD (.p .undef)) ((xs[i]?).getD undef)
 |[],xs,h=>by simp only[bw]at h;subst h;simp[aw,aA]
 |v::vs,xs,h=>by
  simp only[bw]at h;obtain⟨y,c,rfl,a,b⟩:=h;have:=rT b;refine⟨by simp[this.1],fun i=>?_⟩;cases i with
  |zero=>simpa using a
  |succ i=>simpa using this.2 i
theorem T9{ah aa:Nat->Prop}{β:Bd}{w:db}{H:Heap}{args:List AV}{a:List c9}{n:Nat}(f:bP P w aa β H ah)(d:bw P w aa β H args a)(g:aQ (aG H) args)(i:args.length<=n):
 cN P n ah aa β ⟨iu 0 args,H⟩ (a.toArray++bo (n-a.length) undef) w:=by
 obtain⟨b,c⟩:=rT d;refine⟨f,fun x=>?_,fun x=>?_,by simp[b];omega⟩
 ·have e:(a.toArray++bo (n-a.length) undef).getD x undef=(a[x]?).getD undef:=by
   rw[b3,<-cb];simp only[Array.toList_append,Array.toList_replicate]
   by_cases hx:x<a.length
   ·rw[List.getElem?_append_left (by simpa using hx)]
   ·rw[List.getElem?_append_right (by simpa using hx)];simp only[hC];rw[List.getElem?_eq_none (by simpa using hx)]
    split<;>rfl
  rw[e,AA];simpa using c x
 ·rw[AA];simp only[Nat.zero_le,if_true,Nat.sub_zero];cases h:args[x]? with
  |none=>simp[aB]
  |some v=>exact cG.1 g v (hG h)
theorem GJ{w:db}{aa:Nat->Prop}{β:Bd}{H:Heap}{T:dg}{v:AV}{ak off:Nat}{a:List c9}(hk:kindOf P T=ad v)(f:bm P w aa β H v a)(hc:gz w ak off a):
 ∃g,(loadVar T ⟨ak,off,none⟩).run P w=.ok g w/\aw P w aa β H v g:=by
 obtain⟨o,n⟩:=ng f;have m:∀j,(⟨ak,off,none⟩:Addr).add j=⟨ak,off+j,none⟩:=by intro j;unfold Addr.add;split<;>simp_all
 unfold kindOf at hk;cases hs:ad v with
 |bad=>exact(n hs).elim
 |leaf=>
  rw[hs]at hk;obtain⟨c,rfl,e⟩:=(Bu hs a).1 f;refine⟨c,?_,e⟩;have h:=hc 0 (by simp);simp only[ih,List.getElem_cons_zero]at h;have b:(isAgg T).run P w=.ok false w:=by
   cases hu:P.underlying T with
   |none=>simp[hu]at hk
   |some d=>
    cases d<;>simp only[hu]at hk<;>first
     |(simp[isAgg,c6 hu];done)
     |(split at hk<;>simp at hk)
  simp[loadVar,b,h]
 |agg u=>
  rw[hs]at hk;have e:=(Lu hs a).1 f;refine⟨.agg a.toArray,?_,e⟩;have b:(isAgg T).run P w=.ok true w/\P.cellsOf T=a.length:=by
   rw[o,hs];cases hu:P.underlying T with
   |none=>simp[hu]at hk
   |some d=>
    cases d<;>simp only[hu]at hk<;>first
     |(split at hk
       ·rename_i hc;simp at hk;subst hk;simp at hc;refine⟨by simp[isAgg,c6 hu],hc.2⟩
       ·simp at hk)
     |(split at hk<;>simp at hk)
  obtain⟨i,hi⟩:∃i,P.info? T=some i:=by
   cases hi:P.info? T with
   |none=>
    have l:=b.1;simp[isAgg,underlying,g7,hi]at l
   |some i=>exact⟨i,rfl⟩
  have q:(sizeOf T).run P w=.ok a.length w:=by
   rw[<-b.2];simp[sizeOf,typeInfo,hi,g0]
  have p:=run_loadCells_list (P:=P) w ⟨ak,off,none⟩ a (fun j x hx=>by
   rw[m];have k:j<a.length:=(ht.1 hx).1;rw[hc j k];rw[hA k]at hx;exact hx)
  simp[loadVar,b.1,q,p]
theorem TU{n:Nat}{ah aa:Nat->Prop}{β:Bd}{s:St}{t:Array c9}{w:db}(h:cN P n ah aa β s t w){g:ea}{v:AV}(c:oM P s g=some v):
 ∃e,(match g with
  | .tmp x=>(pure (t.getD x undef):Sem c9)
  | .cell a T=>do loadVar T (<-asAddr (t.getD a undef))).run P w=.ok e w/\aw P w aa β s.heap v e/\aB (aG s.heap) v:=by
 cases g with
 |tmp x=>
  simp[oM]at c;subst c;exact⟨_,rfl,h.env x,h.gh x⟩
 |cell a T=>
  simp only[oM]at c;have d:=h.env a
  split at c
  case h_2=>simp at c
  rename_i b B k;rw[k]at d
  split at c
  case h_2=>simp at c
  rename_i fz r f
  split at c
  case h_2=>simp at c
  rename_i v' hs
  split at c
  case isFalse=>simp at c
  rename_i hc;simp at c;subst c;simp only[aw]at d;obtain⟨_,d⟩:=d;simp only[bO]at d;obtain⟨y,q,o,p,m,d⟩:=d;obtain⟨rfl,rfl⟩:=d (.inl ⟨fz,r,f⟩);obtain⟨cs,u,i,j,z,A⟩:=h.heap.cE b _ f;obtain⟨pre,xs,post,e1,e2,e3,_⟩:=oB j hs m;have l:gz w (β.ak b) q xs:=by rw[<-e2];exact kW i e1
  obtain⟨e,k1,k2⟩:=GJ hc e3 l;refine⟨e,?_,k2,ur hs (h.heap.refs b _ f)⟩;simp only[p,asAddr];simp[k1]
theorem GM{n:Nat}{ah aa:Nat->Prop}{β:Bd}{s:St}{t:Array c9}{w:db}(h:cN P n ah aa β s t w):∀{d:List ea}{vs:List AV},fu P s d=some vs->
 ∃c:List c9,(d.mapM (fun i:ea=>match i with
  | .tmp x=>(pure (t.getD x undef):Sem c9)
  | .cell a T=>do loadVar T (<-asAddr (t.getD a undef)))).run P w=.ok c w/\bw P w aa β s.heap vs c/\aQ (aG s.heap) vs
 |[],vs,b=>by
  simp[fu]at b;subst b;exact⟨[],by simp,by simp[bw],by simp[aQ]⟩
 |r::d,vs,b=>by
  simp only[fu]at b
  split at b
  case h_2=>simp at b
  rename_i v j f g;simp at b;subst b;obtain⟨e,k1,k2,k3⟩:=TU h f;obtain⟨c,g1,g2,g3⟩:=GM h g;refine⟨e::c,?_,by simp only[bw];exact⟨e,c,rfl,k2,g2⟩,by simp only[aQ];exact⟨k3,g3⟩⟩;simp only[h3,hb,k1,ha,g1];rfl
theorem Ib{w:db}{aa:Nat->Prop}{β:Bd}{H:Heap}{vs:List AV}{a:List c9}(h:bw P w aa β H vs a)(d:aQ (aG H) vs):
 aw P w aa β H (oneOf vs) (if h:a.toArray.size=1 then a.toArray[0]else .tuple a.toArray)/\aB (aG H) (oneOf vs):=by
 have b:=(rT h).1
 match vs,a,h with
 |[v],[c],h=>
  simp only[bw]at h;obtain⟨y,j,g,e,i⟩:=h;cases g;simp only[aQ]at d;exact⟨by simpa[oneOf]using e,by simpa[oneOf]using d.1⟩
 |[],[],h=>exact⟨by simp[oneOf,eB,aw,aA,bn],by simp[oneOf,eB,aB]⟩
 |v1::v2::vs,c1::c2::a,h=>
  have hs:¬(c1::c2::a).toArray.size=1:=by simp
  rw[dif_neg hs];simp only[oneOf];cases f:eB (v1::v2::vs)with
  |none=>exact⟨by simp only[aw];exact⟨_,h,rfl⟩,by simpa only[aB]using d⟩
  |some l=>
   have:=lg f;rw[this]at h;exact⟨by simp only[aw,aA];exact⟨_,jf.1 h,rfl⟩,by simp[aB]⟩
 |[],_::_,_=>simp at b
 |[_],[],_=>simp at b
 |[_],_::_::_,_=>simp at b
 |_::_::_,[],_=>simp at b
 |_::_::_,[_],_=>simp at b
theorem takes{fr:dz}{cs:List dz}(c:fr.mode= .returning):∀(a:List Nat)(w:db),a.Nodup->(∀r∈a,w.heap[r]?=some (.deferred (some [])))->
 ∃w',eb P (lone {fr with defers:=a.map mark} cs w) (lone {fr with defers:=[]} cs w')/\w'.heap.size=w.heap.size/\(∀k,k∉a->w'.heap[k]?=w.heap[k]?)/\(w'.os=w.os/\w'.output=w.output)
 |[],w,_,_=>⟨w,hl _ _,rfl,fun _ _=>rfl,rfl,rfl⟩
 |r::a,w,b,h=>by
  rw[List.nodup_cons]at b;have f:=h r (by simp);have hk:=run_takeDeferred (P:=P) f;have m:=(bv.1 f).1;obtain⟨w',g,i,j,l⟩:=takes c a (w.putObj r (.deferred none)) b.2 (fun x hx=>(hp (fun(e:x=r)=>b.1 (e▸hx))).trans (h x (by simp[hx])));refine⟨w',(hh (step_collected (fr:={fr with defers:=(r::a).map mark}) (d:=mark r) (ds:=a.map mark) (by simp[c]) rfl rfl hk)).trans g,by simpa using i,fun k hk=>?_,l⟩;simp only[List.mem_cons,not_or]at hk;exact(j k hk.2).trans (hp hk.1)
theorem G5{N:Nat}{f:ed}{fn:Func}{c:Code}(A:kU P ag)(z:rM P ag fit)(hf:P.funcs[f]?=some fn)(G:fn.body=some c)(O:codeOk fit fn.ntmps c=true)
 {args:List AV}{H:Heap}{R:List AV->St->Prop}(L:args.length<=fn.ntmps)
 (U:cd P ag (fn.ntmps,N) c (fun e s=>(match e with
  | .exit _=>False
  |_=>True)/\∃vs,fu P s fn.results.toList=some vs/\R vs s) ⟨iu 0 args,H⟩)
 {w:db}{aa ah:Nat->Prop}{β:Bd}{d:List c9}(i:bP P w aa β H ah)(u:bw P w aa β H args d)(Q:aQ (aG H) args):
 Calls P f d.toArray w fun e w'=>∃vs s a aE aH t,e=.returned (if h:a.toArray.size=1 then a.toArray[0]else .tuple a.toArray)/\R vs s/\cN P fn.ntmps ah aE aH s t w'/\dI N ah aa w β H ah aE w' aH s.heap/\
  bw P w' aE aH s.heap vs a/\aQ (aG s.heap) vs:=by
 intro cs;have Y:=(rT u).1;obtain⟨g,j⟩:∃g:dz,g={fn:=f,tmps:=#[],todo:=[],defers:=[],mode:=.run,kind:=.normal}:=⟨_,rfl⟩
 have I:Frame.enter P f d.toArray .normal=bA g (d.toArray++bo (fn.ntmps-d.length) undef) [] [.code c]:=by
  subst j;simp[Frame.enter,bA,hf,G]
 obtain⟨e,s,W,aE,aH,t,p,X,⟨B,vs,C,D⟩,o,m,b,E⟩:=lV (fr:=g) (cs:=cs) (ds:=[]) A z c [] O U (T9 i u Q L) (fun l J=>by subst j;cases J);obtain⟨rs,v,M,n,Z,_⟩:=E;rw[h2]at v;subst v;rw[I]
 have q:∀todo,eb P (lone (bA g (d.toArray++bo (fn.ntmps-d.length) undef) [] [.code c]) cs w) (lone {bA g t (rs.map mark) todo with mode:= .returning} cs p)->
  ∃e w' fr,(∃vs s a aE aH t,e=.returned (if h:a.toArray.size=1 then a.toArray[0]else .tuple a.toArray)/\R vs s/\cN P fn.ntmps ah aE aH s t w'/\dI N ah aa w β H ah aE w' aH s.heap/\
   bw P w' aE aH s.heap vs a/\aQ (aG s.heap) vs)/\Comes P (lone (bA g (d.toArray++bo (fn.ntmps-d.length) undef) [] [.code c]) cs w) (lone fr cs w') e/\fr.fn=f/\fr.leaving P w' e:=by
  intro todo aK;obtain⟨w',t1,t2,t3,t4⟩:=takes (P:=P) (fr:={bA g t (rs.map mark) todo with mode:=.returning}) (cs:=cs) rfl rs p M (fun r i=>(n r i).2.2.2);have T:∀k,aE k->w'.heap[k]?=p.heap[k]?:=fun k hk=>t3 k (fun i=>(n k i).2.2.1 hk);have y:cN P fn.ntmps ah aE aH s t w':=⟨m.heap.shut b.dS (R:=fun k=>k∈rs) (fun x hx=>⟨(n x hx).2.1,(n x hx).2.2.1⟩) t2 t3,fun x=>aw.mono (fun _ x=>x) T (ch.refl _ _) _ _ (m.gh x) (m.env x),m.gh,m.size⟩
  have F:dI N ah aa w β H ah aE w' aH s.heap:=⟨fun _ x=>x,b.bR,b.fresh,⟨by rw[t2];exact b.ext.size,fun k hk=>(t3 k (fun K=>by
   have:=(n k K).1;have:=hk.elim (i.dS k) (i.bR k);omega)).trans (b.ext.same k hk),t4.1.trans b.ext.io.1,t4.2.trans b.ext.io.2⟩,b.step,b.eL,b.loop⟩
  obtain⟨a,g1,g2,g3⟩:=GM y C;have S:(results fn t).run P w'=.ok (if h:a.toArray.size=1 then a.toArray[0]else .tuple a.toArray) w':=by
   simp only[results];rw[b4];rw[hb,he]
   erw [g1]
   rfl
  refine⟨_,w',{bA g t [] todo with mode:=.returning},⟨vs,s,a,aE,aH,t,rfl,D,y,F,g2,g3⟩,hj aK t1,by subst j;rfl,?_⟩;subst j;exact⟨rfl,rfl,rfl,fn,hf,S⟩
 cases e with
 |exit id=>exact B.elim
 |normal=>
  exact q [] (hj o (.one (eo (by subst j;simp[stepG,stepG.exec,bA]))))
 |ret=>
  obtain⟨V,o⟩:=o;exact q (.code .ret::V) (hj o (.one (eo (by subst j;simp[stepG,stepG.exec,bA]))))
theorem JE{f:ed}{fn:Func}{c:Code}(n:kU P ag)(m:rM P ag fit)(A:Enters P f)(hf:P.funcs[f]?=some fn)(z:fn.body=some c)(E:codeOk fit fn.ntmps c=true)
 {args:List PV}{v:PV}(D:args.length<=fn.ntmps)
 (I:cd P ag (fn.ntmps,0) c (fun e s=>(match e with
  | .exit _=>False
  |_=>True)/\∃vs,fu P s fn.results.toList=some vs/\dY s.heap 9 (oneOf vs)=some v) ⟨iu 0 (args.map .p),[]⟩):mu P f args v:=by
 refine⟨A,fun w aa J C B y=>?_⟩;have F:bP P w aa ⟨id,id⟩ [] (fun k=>k<w.heap.size):=⟨by simp,by simp,by simp,C,fun _ h=>h,B⟩
 refine(G5 n m hf z E (R:=fun vs s=>dY s.heap 9 (oneOf vs)=some v) (by simpa using D) I F (jf.2 y) (iM _ _)).mono ?_;rintro e w' ⟨vs,s,K,aE,aH,t,rfl,x,hs,d,G,H⟩;obtain⟨q,r⟩:=Ib G H;have u:=wZ hs.heap _ _ _ x r _ q;refine⟨_,CJ aE aH s.heap,rfl,fun k hk=>.inl (d.bR k hk),?_,?_,d.ext.size,fun k hk=>d.ext.same k (.inl hk),d.ext.io,u⟩
 ·rintro k (hk|⟨b,o,j,g,rfl⟩)
  ·rcases d.fresh k hk with h|h
   ·exact .inl h
   ·exact .inr (by omega)
  ·by_cases l:aH.ak b<w.heap.size
   ·
    left;have a:=hs.heap.cE b o j;have:aE (aH.ak b)\/¬(aH.ak b<w.heap.size):=by
     have key:∀fz,cw aE aH (fun k=>k<w.heap.size) fz b->aE (aH.ak b)\/¬(aH.ak b<w.heap.size):=fun fz h=>by
      cases fz with
      |true=>exact .inl h
      |false=>exact .inr h.2
     cases o with
     |hole=>exact g.elim
     |dead=>exact g.elim
     |box fz t=>obtain⟨_,_,_,_,h,_⟩:=a;exact key _ h
     |arr k ar ai es=>
      rcases a with a|⟨_,_,_,_,_,_,_,_,_,_,h,_⟩
      ·exact(g a).elim
      ·exact key _ h
     |map fz es=>obtain⟨_,_,_,_,h⟩:=a;exact key _ h
     |dm ks vs=>obtain⟨_,_,_,_,_,h⟩:=a;exact key _ h
     |dv s pos=>obtain⟨_,_,_,h⟩:=a;exact key _ h
     |loop L=>obtain⟨_,_,_,_,_,_,h⟩:=a;exact key _ h
    rcases this with h|h
    ·rcases d.fresh _ h with i|i
     ·exact i
     ·exact(i l).elim
    ·exact(h l).elim
   ·exact .inr (by omega)
 ·rintro k (hk|⟨b,o,j,g,rfl⟩)
  ·exact hs.heap.bR k hk
  ·exact hs.heap.l7 j g
def sR(P:dl)(a:List ea)(N:Nat)(H':Heap)(v:AV)(e:bu)(s:St):Prop:=
 (match e with
  | .exit _=>False
  |_=>True)/\∃vs,fu P s a=some vs/\oneOf vs=v/\(H'=s.heap\/(cX N s ⟨[],H'⟩/\aB (aG H') v))
theorem VB{f:ed}{fn:Func}{c:Code}(q:kU P ag)(p:rM P ag fit)(u:Enters P f)(hf:P.funcs[f]?=some fn)(j:fn.body=some c)(A:codeOk fit fn.ntmps c=true)
 {args:List AV}{H H':Heap}{v:AV}(z:args.length<=fn.ntmps)(G:cd P ag (fn.ntmps,H.length) c (sR P fn.results.toList H.length H' v) ⟨iu 0 args,H⟩):b9 P f H args H' v:=by
 refine⟨u,fun w aa ah β I B r C=>?_⟩;refine(G5 q p hf j A (R:=fun vs s=>oneOf vs=v/\(H'=s.heap\/(cX H.length s ⟨[],H'⟩/\aB (aG H') v))) z G B r C).mono ?_;rintro e w' ⟨vs,s,g,aE,aH,t,rfl,⟨rfl,a⟩,hs,m,F,E⟩;obtain⟨i,k⟩:=Ib F E;obtain⟨d,k1,k2,k3⟩:dI H.length ah aa w β H ah aE w' aH H'/\bP P w' aE aH H' ah/\aw P w' aE aH H' (oneOf vs) (if h:g.toArray.size=1 then g.toArray[0]else .tuple g.toArray)/\aB (aG H') (oneOf vs):=by
  rcases a with rfl|⟨a,D⟩
  ·exact⟨m,hs.heap,i,k⟩
  ·refine⟨m.trans (a.eU (β:=aH) (ah:=ah) (aa:=aE) (w:=w')),(a.rel hs).heap,?_,D⟩;rcases a with a|a
   ·have e:H'=s.heap:=by rw[<-a]
    rw[e];exact i
   ·exact aw.mono (fun _ x=>x) (fun _ _=>rfl) a.1.step _ _ k i
 refine⟨_,aH,aE,rfl,⟨d.bR,d.fresh,d.ext,d.step.full,k1,fun x hx=>?_,fun b j=>?_⟩,k2,k3⟩
 ·obtain⟨o,n,y⟩:=hx;exact d.eL x (ht.1 n).1 ⟨o,n,y⟩
 ·obtain⟨L,l⟩:=j;exact d.loop b (ht.1 l).1 ⟨L,l⟩
theorem cN.post{n:Nat}{ah aa aE:Nat->Prop}{β aH:Bd}{s:St}{H':Heap}{t:Array c9}{w w':db}(h:cN P n ah aa β s t w)(a:bV P ah aa w β s.heap aE w' aH H'):cN P n ah aE aH ⟨s.env,H'⟩ t w':=
 ⟨a.rel,fun x=>aw.mono a.bR (fun k hk=>a.ext.same k (.inr hk)) a.step _ _ (h.gh x) (h.env x),fun x=>aB.mono a.eL _ (h.gh x),h.size⟩
def pY:List Tmp->List AV->Env->Env
 |t::ts,v::vs,e=>pY ts vs ((t,v)::e)
 |_,_,e=>e
def gB:bu->Option Code
 | .normal=>none
 | .exit id=>some (.exit id)
 | .ret=>some .ret
def rO(b:Nat)(K:Heap->AV->Prop)(e:bu)(s:St):Prop:=
 match s.heap[b]? with
 |some (.loop L)=>K (s.heap.set b (.loop {L with st:=if(gB e).isNone then .ready else .done,pending:=gB e})) (.p (.bool (gB e).isNone))
 |_=>False
def wY(P:dl)(ag:ed->Bool)(q:Cx)(b:Nat)(body:Code)(K:Heap->AV->Prop)(e:bu)(s:St):Prop:=
 match e,s.heap[b]? with
 | .normal,some (.loop L)=>L.st=.ready/\cd P ag q body (rO b K) ⟨s.env,s.heap.set b (.loop {L with st:=.busy})⟩
 |_,_=>False
def xN(P:dl)(ag:ed->Bool)(L:fc)(b:Nat)(args:List AV)(H:Heap)(K:Heap->AV->Prop):Prop:=
 cd P ag (L.n,H.length) L.assign (wY P ag (L.n,H.length) b L.body K) ⟨pY L.params args L.env,H⟩
def pO(ts:List Tmp)(a:List c9)(t:Array c9):Array c9:=(ts.zip a).foldl (fun t(p,v)=>t.setIfInBounds p v) t
theorem HI{w:db}{aa:Nat->Prop}{β:Bd}{H:Heap}:∀{ts:List Tmp}{vs:List AV}{xs:List c9}{e:Env}{t:Array c9},(∀x∈ts,x<t.size)->bw P w aa β H vs xs->aQ (aG H) vs->(∀x,aw P w aa β H (aN e x) (t.getD x undef))->(∀x,aB (aG H) (aN e x))->
 (pO ts xs t).size=t.size/\(∀x,aw P w aa β H (aN (pY ts vs e) x) ((pO ts xs t).getD x undef))/\(∀x,aB (aG H) (aN (pY ts vs e) x))
 |[],vs,xs,e,t,_,a,_,b,c=>by
  cases vs<;>exact⟨rfl,b,c⟩
 |p::ts,[],xs,e,t,_,a,_,b,c=>by
  simp only[bw]at a;subst a;exact⟨rfl,b,c⟩
 |p::ts,v::vs,xs,e,t,f,a,d,b,c=>by
  simp only[bw]at a;obtain⟨y,h,rfl,k1,k2⟩:=a;simp only[aQ]at d;have g:p<t.size:=f p (by simp);obtain⟨g1,g2,g3⟩:=HI (ts:=ts) (vs:=vs) (xs:=h) (e:=(p,v)::e) (t:=t.setIfInBounds p y) (fun x hx=>by simpa using f x (by simp[hx])) k2 d.2
   (fun x=>by
    simp only[aN]
    by_cases hx:x=p
    ·subst hx;simp[g];exact k1
    ·simp only[hx,if_false,b3,Array.getElem?_setIfInBounds_ne (Ne.symm hx)];simpa using b x)
   (fun x=>by
    simp only[aN]
    split
    ·exact d.1
    ·exact c x)
  exact⟨by simpa[pO]using g1,g2,g3⟩
theorem zip_toArray(a:List Tmp)(b:List c9)(t:Array c9):(a.toArray.zip b.toArray).foldl (fun t(p,v)=>t.setIfInBounds p v) t=pO a b t:=by
 unfold pO;rw[<-ce];simp
theorem VA(I:kU P ag)(G:rM P ag fit){b:Nat}{L:fc}{H H':Heap}{args:List AV}{v:AV}(f:H[b]?=some (.loop L))(aD:args.length=L.params.length)(aE:∀x∈L.params,x<L.n)
 (ar:codeOk fit L.n L.assign=true)(hc:codeOk fit L.n L.body=true)(aJ:xN P ag L b args H (fun af aS=>aS=v/\cX H.length ⟨[],af⟩ ⟨[],H'⟩)):ic P b H args H' v:=by
 refine⟨⟨L,f⟩,fun w aa ah β i B W av=>?_⟩;obtain⟨tmps,defers,fn,ap,M,aq,aW⟩:=B.cE b _ f;have s:b<H.length:=(ht.1 f).1;have ay:=(rT W).1;have j:=run_yield (P:=P) (args:=i.toArray) ap (by simp[ay,aD]);obtain⟨q1,aO,aP⟩:=HI (ts:=L.params) (vs:=args) (xs:=i) (e:=L.env) (t:=tmps) (fun x hx=>by rw[M];exact aE x hx) W av aq (B.refs b _ f);rw[zip_toArray]at j;refine⟨fn,_,_,_,j,fun K ae=>?_⟩;obtain⟨c,z⟩:∃c:dz,c={fn:=fn,tmps:=#[],todo:=[],defers:=[],mode:=.run,kind:=.normal,roundOf:=some (β.ak b)}:=⟨_,rfl⟩
 have g:c.roundOf=some (β.ak b):=by subst z;rfl
 have A:c.kind=.normal:=by subst z;rfl
 have az:Frame.round (β.ak b) fn (pO L.params i tmps) L.assign L.body .normal=bA c (pO L.params i tmps) [] [.code L.assign,.beginRound,.code L.body]:=by subst z;rfl
 have V:qg H.length c β H:=fun l Z=>by
  rw[g]at Z;cases Z;exact⟨b,s,⟨L,f⟩,rfl⟩
 obtain⟨e1,s1,aV,aU,aT,t1,bd,am,g1,ao,g3,g4,g5⟩:=lV (N:=H.length) (fr:=c) (cs:=K::ae) (ds:=[]) I G L.assign [.beginRound,.code L.body] ar aJ ⟨B,aO,aP,q1.trans M⟩ V;unfold wY at g1
 split at g1
 case h_2=>exact g1.elim
 rename_i q Q;obtain⟨g1,g6⟩:=g1;obtain⟨bb,m1,_,_,m4,m5⟩:=g5;have aH:=m5 (by rw[g];rfl);subst aH;obtain rfl:am=[]:=m1;have ak:aT.ak b=β.ak b:=(g4.step.loop b s ⟨_,f,trivial⟩ ⟨q,Q⟩).2;obtain⟨rec,ad,aQ,aR,a6,a7,a8,a9,ba,D⟩:=BC g3.heap Q .busy q.pending;rw[ak]at ad D;have X:=run_beginRound (P:=P) ad (aQ.trans g1);have ax:({rec with state:=.busy}:Loop)={rec with state:=.busy,pending:=q.pending}:=by rw[<-aR]
 rw[ax]at X;have T:=g4.trans (D.eU (N:=H.length));obtain⟨e2,s2,r,p,m,t2,F,an,k1,k2,k3,k4,k5⟩:=lV (N:=H.length) (fr:=c) (cs:=K::ae) (ds:=[]) I G L.body [] hc g6 (g3.post D) (V.eU T);unfold rO at k1
 split at k1
 case h_2=>exact k1.elim
 rename_i J S;obtain⟨rfl,Y⟩:=k1;obtain⟨bc,aL,_,_,n4,aM⟩:=k5;have aI:=aM (by rw[g];rfl);subst aI;obtain rfl:an=[]:=aL;have aX:∀k,r k->ah k:=fun k hk=>(m4 k ((n4 k hk).resolve_right (by simp))).resolve_right (by simp);have U:=T.trans k4;have al:m.ak b=β.ak b:=(U.step.loop b s ⟨_,f,trivial⟩ ⟨J,S⟩).2;obtain⟨E,ac,aY,aZ,a0,a1,a3,a4,a5,C⟩:=BC k3.heap S (if(gB e2).isNone then .ready else .done) (gB e2);rw[al]at ac C;have u:=run_endRound (P:=P) (gB e2) ac;have au:=U.trans (C.eU (N:=H.length));have d:=au.trans (Y.eU (β:=m) (ah:=r) (aa:=p) (w:=F.putObj (β.ak b) (.loop {E with state:=if(gB e2).isNone then .ready else .done,pending:=gB e2})));refine⟨.bool (gB e2).isNone,F.putObj (β.ak b) (.loop {E with state:=if(gB e2).isNone then .ready else .done,pending:=gB e2}),m,p,?_,?_,by simp[aw,aA],by simp[aB]⟩
 ·rw[az];refine hj (ao:eb P _ _) ((hh (stepR_beginRound (b:=c) (a:=⟨t1,[]⟩) g X)).trans ?_);cases e2 with
  |normal=>exact hj (k2:eb P _ _) (.one (stepR_round_end (b:=c) (a:=⟨t2,[]⟩) g A u))
  |exit id=>
   obtain⟨aK,aj,a2⟩:=k2;exact hj a2 (.one (stepR_round_exit (b:=c) (a:=⟨t2,[]⟩) g A (by rw[aj];rfl) u))
  |ret=>
   obtain⟨aK,a2⟩:=k2;exact hj a2 (.one (stepR_round_ret (b:=c) (a:=⟨t2,[]⟩) g A u))
 ·have aF:cN P 0 r p m ⟨[],s2.heap.set b (.loop {J with st:=if(gB e2).isNone then .ready else .done,pending:=gB e2})⟩ #[] (F.putObj (β.ak b) (.loop {E with state:=if(gB e2).isNone then .ready else .done,pending:=gB e2})):=
   ⟨C.rel,fun x=>by simp[aN,aw,aA],fun x=>by simp[aN,aB],rfl⟩
  have aG:=(Y.rel aF).heap;refine⟨d.bR,d.fresh,d.ext,d.step.full,aG.shut d.dS (R:=fun _=>False) (fun _ h=>h.elim) rfl (fun _ _=>rfl),fun x hx=>?_,fun y j=>?_⟩
  ·obtain⟨o,ab,aC⟩:=hx;exact d.eL x (ht.1 ab).1 ⟨o,ab,aC⟩
  ·obtain⟨ai,O⟩:=j;exact d.loop y (ht.1 O).1 ⟨ai,O⟩
end
section
variable{P:dl}
theorem Ki{w:db}{aa:Nat->Prop}{b:Bool}{v:c9}:aA P w aa (.bool b) v↔v=.bool b:=by simp[aA]
theorem Ch{w:db}{aa:Nat->Prop}{k:en}{n:Int}{v:c9}:aA P w aa (.int k n) v↔v=.int k n:=by simp[aA]
theorem Lr{w:db}{aa:Nat->Prop}{s:List Nat}{v:c9}:aA P w aa (.str s) v↔∃bs:ByteArray,v=.string bs/\s=bs.data.toList.map (·.toNat):=by simp[aA]
theorem eh{s:Sem c9}{w:db}{a:c9}(h:s.run P w=.ok a w):(do pure (Next.value (<-s)):Sem Next).run P w=.ok (.value a) w:=by simp[h]
theorem tT{s:Sem c9}{w w':db}{a:c9}(h:s.run P w=.ok a w'):(do pure (Next.value (<-s)):Sem Next).run P w=.ok (.value a) w':=by simp[h]
theorem wN{T:dg}{v:AV}{w:db}{aa:Nat->Prop}{β:Bd}{H:Heap}{cs:List c9}(hk:kindOf P T=ad v)(d:bm P w aa β H v cs):P.cellsOf T=cs.length/\∃i,P.info? T=some i/\i.size=cs.length:=by
 obtain⟨c,a⟩:=ng d;have b:P.cellsOf T=cs.length:=by
  rw[c,<-hk];unfold kindOf at hk⊢
  split at hk
  ·split at hk<;>rename_i hc
   ·simp at hc;rw[if_pos (by simpa using hc)];simp[bF,hc.2]
   ·exact(a hk.symm).elim
  ·split at hk<;>rename_i hc
   ·simp at hc;rw[if_pos (by simpa using hc)];simp[bF,hc]
   ·exact(a hk.symm).elim
  ·split at hk<;>rename_i hc
   ·simp at hc;rw[if_pos (by simpa using hc)];simp[bF,hc]
   ·exact(a hk.symm).elim
  ·exact(a hk.symm).elim
 refine⟨b,?_⟩;cases hi:P.info? T with
 |none=>
  have:kindOf P T=.bad:=by simp[kindOf,g7,hi]
  rw[this]at hk;exact(a hk.symm).elim
 |some i=>exact⟨i,rfl,by simpa[g0,hi]using b⟩
variable{o:Oper}{ρ:da->AV}{base:Nat}
theorem O7{x:da}(a:o.op=.move x\/o.op=.assign x):bp P o ρ base {v:=ρ x}:=by
 refine bp.same fun H w aa ah β c d b _=>?_;refine⟨c x,?_,b x ?_⟩
 ·rcases a with a|a<;>simp[dk,a]
 ·rcases a with a|a<;>simp[a,gm]
theorem aAo{c a b:da}{t:Bool}(d:o.op=.pick c a b)(hc:ρ c=.p (.bool t)):bp P o ρ base {v:=if t then ρ a else ρ b}:=by
 refine bp.same fun H w aa ah β g h f _=>?_;have e:=(f c (by simp[d,gm])).1;rw[hc]at e;simp only[aw,Ki]at e;refine⟨if t then g a else g b,by simp[dk,d,e,asBool],?_⟩;cases t with
 |true=>exact f a (by simp[d,gm])
 |false=>exact f b (by simp[d,gm])
theorem HM{t:da}{i:Nat}{vs:List AV}{v:AV}(h:o.op=.extract t i)(e:ρ t=.aD vs\/∃l,ρ t=.p (.aD l)/\vs=l.map .p)(hi:vs[i]?=some v):bp P o ρ base {v}:=by
 refine bp.same fun H w aa ah β k n j _=>?_;obtain⟨d,f⟩:=j t (by simp[h,gm]);obtain⟨c,k1,k2,k3⟩:∃c,bw P w aa β H vs c/\k t=.tuple c.toArray/\aQ (aG H) vs:=by
  rcases e with e|⟨l,e,rfl⟩
  ·rw[e]at d f;simp only[aw,aB]at d f;obtain⟨c,a,b⟩:=d;exact⟨c,a,b,f⟩
  ·rw[e]at d;simp only[aw,aA]at d;obtain⟨c,a,b⟩:=d;exact⟨c,jf.2 a,b,iM _ _⟩
 obtain⟨g1,g2⟩:=rT k1;have m:i<vs.length:=(ht.1 hi).1;have hx:c[i]?=some (c[i]'(by omega)):=hA (by omega);have g:=g2 i;rw[hi,hx]at g;refine⟨c[i]'(by omega),?_,by simpa using g,cG.1 k3 v (hG hi)⟩;simp only[dk,h,Instr.extract,k2];simp[hx]
theorem aAk{c:BinOp}{T j:dg}{x y:da}{k d:en}{a b:Int}{K:PV->Prop}(g:o.op= .binOp c T x y j)(hx:ρ x= .p (.int k a))(t:ρ y= .p (.int d b))(hk:k=d\/c= .shl\/c= .shr)
 (h:oQ c k a b K)(aj:List (Nat×Obj)):∃v,K v/\bp P o ρ base {v:=.p v,aj}:=by
 have key:∀v,K v->(∀w:db,(binOp c T (.int k a) (.int d b)).run P w= .ok (match v with| .int k n=> .int k n| .bool b=> .bool b|_=>undef) w)->(∀w aa,aA P w aa v (match v with| .int k n=> .int k n| .bool b=> .bool b|_=>undef))->
  ∃v,K v/\bp P o ρ base {v:=.p v,aj}:=by
  intro v s r q;refine⟨v,s,bp.same fun H w aa ah β z u i _=>?_⟩;have e:=(i x (by simp[g,gm])).1;have f:=(i y (by simp[g,gm])).1;rw[hx]at e;rw[t]at f;simp only[aw,Ch]at e f;refine⟨_,?_,by simp only[aw];exact q w aa,by simp[aB]⟩;simp only[dk,g,e,f];refine eh ?_;have m:(eqGuard c T x y (.int k a) (.int d b)).run P w=.ok () w:=by
   unfold eqGuard
   split<;>simp
  simp[m,r w]
 cases c<;>simp only[oQ]at h
 case add|sub|mul|and|or|xor|andNot|eql|neq|lss|leq|gtr|geq=>
  obtain rfl:k=d:=by rcases hk with h|h|h<;>first|exact h|cases h
  exact key _ h (fun w=>by simp[binOp,gx,gy,Op.intCmp]) (fun w aa=>by simp[aA])
 case quo|rem=>
  obtain rfl:k=d:=by rcases hk with h|h|h<;>first|exact h|cases h
  exact key _ h.2 (fun w=>by simp[binOp,Op.intDiv,h.1]) (fun w aa=>by simp[aA])
 case shl|shr=>
  have l:¬b<0:=by omega
  exact key _ h.2 (fun w=>by simp[binOp,Op.shift,l]) (fun w aa=>by simp[aA])
theorem Dy{u:UnOp}{T:dg}{x:da}{v r:PV}(c:o.op= .unOp u T x)(hx:ρ x= .p v)
 (h:(u=.not/\∃b,v=.bool b/\r=.bool (!b))\/(u=.neg/\∃k n,v=.int k n/\r=.int k (k.wrap (0-n)))\/
  (u=.xor/\∃k n,v=.int k n/\r=.int k (k.wrap (BitVec.ofInt k.bits (if k.signed then -1 else k.max)^^^BitVec.ofInt k.bits n).toNat))):bp P o ρ base {v:=.p r}:=by
 refine bp.same fun H w aa ah β f e d _=>?_;have a:=(d x (by simp[c,gm])).1;rw[hx]at a;simp only[aw]at a;rcases h with⟨rfl,b,rfl,rfl⟩|⟨rfl,k,n,rfl,rfl⟩|⟨rfl,k,n,rfl,rfl⟩
 ·rw[Ki]at a;exact⟨_,by simp only[dk,c,a];exact eh (by simp[gt];rfl),by simp[aw,aA],by simp[aB]⟩
 ·rw[Ch]at a;exact⟨_,by simp only[dk,c,a];exact eh (by simp[gt,gx];rfl),by simp[aw,aA],by simp[aB]⟩
 ·rw[Ch]at a;exact⟨_,by simp only[dk,c,a];exact eh (by simp[gt,gy];rfl),by simp[aw,aA],by simp[aB]⟩
end
section
variable{P:dl}{w:db}{aa ah:Nat->Prop}{β:Bd}{H:Heap}
variable{o:Oper}{ρ:da->AV}{base:Nat}
theorem kS(H:Heap)(b:Nat)(o':Obj):ba H ([]++newAt b [o'])=H.set b o':=rfl
theorem Uy{x:AV}{T:dg}(hs:ad x≠ .bad)(hx:iV T (ad x)=true)(hrefs:∀(H:Heap)(w:db)(aa ah:Nat->Prop)(β:Bd)(d:da->c9),bP P w aa β H ah->
 (∀y∈o.op.operands,aw P w aa β H (ρ y) (d y)/\aB (aG H) (ρ y))->∃a,aw P w aa β H x a/\aB (aG H) x/\
  (dk d o).run P w=.ok (.value (.pointer (some ⟨w.heap.size,0,none⟩))) {w with heap:=w.heap.push (.cells a.cells T)}):
 bp P o ρ base {v:=.ptr base [],aR:=[.box false x]}:=by
 intro H w aa ah β d b m _ j;obtain⟨a,f,e,g⟩:=hrefs H w aa ah β d b m;have c:H[base]?=some .hole:=by simpa using j 0 (by simp)
 have i:=xj f hs;have aK:=xu (β:=β) c (.box false x) w.heap.size 0;have aj:∀y,aG H y->aG (H.set base (.box false x)) y:=lj c (fun _ h=>h.elim);have l:=rP (cap:=0) b c (ob:=.cells a.cells T) (o':=.box false x)
  ⟨a.cells,T,by simp[Bd.at],bm.mono (fun _ x=>x) (fun k hk=>ue _ _ (b.bR k hk)) aK _ _ e i,by
   simp only[cw,Bd.at,if_true,cx,if_false];exact⟨fun h=>h9 _ (b.bR _ h),fun h=>h9 _ (b.dS _ h)⟩,by simp,hx⟩ (aB.mono aj _ e)
 refine⟨_,_,_,_,aa,g,.inl rfl,l,?_,?_⟩
 ·simp only[aw,bK,bO,kS];exact⟨rfl,_,_,0,rfl,rfl,fun _=>by simp[Bd.at]⟩
 ·simp only[aB,kS];exact⟨.box false x,by simp only;rw[hw (ht.1 c).1],trivial⟩
theorem aAh{T:dg}{x:da}(a:o.op=.box T x)(hs:ad (ρ x)≠.bad)(hx:iV T (ad (ρ x))=true):bp P o ρ base {v:=.ptr base [],aR:=[.box false (ρ x)]}:=by
 refine Uy (T:=T) hs hx fun H w aa ah β e f d=>?_;obtain⟨b,c⟩:=d x (by simp[a,gm]);refine⟨e x,b,c,?_⟩;simp only[dk,a];simp[Instr.box,newVar,newRow]
theorem Aq{w:db}{aa:Nat->Prop}:∀(n:Nat)(T:dg)(cs:List c9)(t:PV),sC P n T cs=some t->aS P w aa t cs/\kindOf P T=aL t
 |0,_,_,_,h=>by simp[sC]at h
 |n+1,T,cs,t,h=>by
  have go:∀(b:List dg)(l:List Nat)(cs:List c9)(fs:List PV),ov P (sC P n) b l cs=some fs->∃a,bc P w aa l fs a/\a.flatten=cs:=by
   intro b
   induction b with
   |nil=>
    intro l cs fs h;cases l with
    |nil=>
     cases cs with
     |nil=>simp[ov]at h;subst h;exact⟨[],by simp[bc]⟩
     |cons c cs=>simp[ov]at h
    |cons s i=>simp[ov]at h
   |cons T b q=>
    intro l cs fs h;cases l with
    |nil=>simp[ov]at h
    |cons s i=>
     simp only[ov]at h
     split at h
     case isFalse=>simp at h
     rename_i m
     split at h
     case h_2=>simp at h
     rename_i v vs g p
     split at h
     case isFalse=>simp at h
     rename_i r;simp at h;subst h;obtain⟨e,_⟩:=Aq n T _ v g;obtain⟨a,f,j⟩:=q i _ vs p;refine⟨cs.take s::a,by simp only[bc];exact⟨_,_,rfl,e,m,f⟩,?_⟩;simp[j]
  unfold sC at h
  split at h
  ·rename_i hk
   split at h
   case h_2=>simp at h
   rename_i c
   split at h
   ·simp at h
   ·rename_i v o;simp at h;subst h;have g:=GV (P:=P) (w:=w) (aa:=aa) c;have d:aL (ofConst c)=.leaf:=by
     unfold ofConst at o⊢
     split<;>simp_all [aL]
    exact⟨(rS d _).2 ⟨c,rfl,g⟩,by rw[hk,d]⟩
  ·rename_i u hk
   split at h
   case h_2=>simp at h
   rename_i l d
   split at h
   case h_2=>simp at h
   rename_i fs k;simp at h;subst h;obtain⟨a,e,f⟩:=go _ _ _ _ k;refine⟨by simp only[aS];exact⟨l,a,d,e,f.symm⟩,by simp[aL,hk]⟩
  ·simp at h
theorem nZ{T:dg}{z:PV}(h:cJ P T=some z):∃i a,P.info? T=some i/\i.zero=some a/\(∀(w:db)(aa:Nat->Prop),aS P w aa z a.cells.toList)/\kindOf P T=aL z:=by
 unfold cJ at h;cases hi:P.info? T with
 |none=>simp[hi]at h
 |some i=>
  simp only[hi,i1]at h;cases b:i.zero with
  |none=>simp[b]at h
  |some a=>
   simp only[b]at h
   split at h
   case isFalse=>simp at h
   exact⟨i,a,rfl,b,fun w aa=>(Aq 40 T _ z h).1,(Aq (w:=default) (aa:=fun _=>True) 40 T _ z h).2⟩
theorem Ks{T:dg}{z:PV}(h:cJ P T=some z):∃a,(∀w:db,(zeroValue T).run P w=.ok a w)/\∀(w:db)(aa:Nat->Prop),aA P w aa z a:=by
 obtain⟨i,a,d,e,f,g⟩:=nZ h;refine⟨a,fun w=>by simp[zeroValue,typeInfo,d,e],fun w aa=>?_⟩;have b:yP a (aL z)=true:=by
  unfold cJ at h;simp only[d,i1,e]at h
  split at h
  ·rename_i j;rw[<-g];exact j
  ·simp at h
 have hc:=f w aa;cases hs:aL z with
 |bad=>exact((mW hc).2 hs).elim
 |leaf=>
  rw[hs]at b;obtain⟨c,k1,k2⟩:=(rS hs _).1 hc;cases a<;>simp[yP]at b<;>(simp[ho]at k1;subst k1;exact k2)
 |agg u=>
  rw[hs]at b;cases a<;>simp[yP]at b;have:=(uP hs _).1 hc;simpa[ho]using this
theorem rN{T:dg}{i:dq}{a:c9}(h:P.info? T=some i)(b:i.zero=some a)(w:db):(zeroValue T).run P w=.ok a w:=by
 simp[zeroValue,typeInfo,h,b]
theorem VM{T:dg}{z:PV}(j:o.op=.alloc T)(m:cJ P T=some z)(hx:iV T (aL z)=true):bp P o ρ base {v:=.ptr base [],aR:=[.box false (.p z)]}:=by
 obtain⟨i,b,d,e,f,q⟩:=nZ m;intro H w aa ah β n a r _ g;have c:H[base]?=some .hole:=by simpa using g 0 (by simp)
 have l:(dk n o).run P w=.ok (.value (.pointer (some ⟨w.heap.size,0,none⟩))) {w with heap:=w.heap.push (.cells b.cells T)}:=by
  simp only[dk,j];simp[Instr.alloc,rN d e,newVar,newRow]
 have k:=rP (cap:=0) a c (ob:=.cells b.cells T) (o':=.box false (.p z))
  ⟨b.cells,T,by simp[Bd.at],by simp only[bm];exact f _ _,by
   simp only[cw,Bd.at,if_true,cx,if_false];exact⟨fun h=>h9 _ (a.bR _ h),fun h=>h9 _ (a.dS _ h)⟩,by simp,by simpa[ad]using hx⟩ (by simp[Obj.refs,aB])
 refine⟨_,_,_,_,aa,l,.inl rfl,k,?_,?_⟩
 ·simp only[aw,bK,bO,kS];exact⟨rfl,_,_,0,rfl,rfl,fun _=>by simp[Bd.at]⟩
 ·simp only[aB,kS];exact⟨.box false (.p z),by simp only;rw[hw (ht.1 c).1],trivial⟩
theorem BT{T:dg}{a:da}{v:AV}(h:o.op= .load T a){d:da->c9}{ak off:Nat}{c:List c9}(g:d a= .pointer (some ⟨ak,off,none⟩))(hk:kindOf P T=ad v)
 (i:bm P w aa β H v c)(hc:gz w ak off c):∃b,(dk d o).run P w=.ok (.value b) w/\aw P w aa β H v b:=by
 obtain⟨b,e,f⟩:=GJ hk i hc;refine⟨b,?_,f⟩;simp only[dk,h,Instr.loadAt,g,gb];simp[e]
theorem yC{ai:Nat}{d:List AV}{g:List (List c9)}(h:Row P w aa β H ai d g){i:Nat}(hi:i<d.length):
 ∃a c post,g.flatten=a++c++post/\a.length=i*ai/\c.length=ai/\bm P w aa β H d[i] c/\
  ∀e c',bm P w aa β H e c'->c'.length=c.length->∃b,b.flatten=a++c'++post/\Row P w aa β H ai (d.set i e) b:=by
 obtain⟨a,c,post,j,k,o,f,l,m⟩:=sc h (hA hi);have n:c.length=ai:=by
  rw[hC]at f;rw[if_pos hi]at f;simpa using f.symm
 refine⟨a,c,post,j,?_,n,l,?_⟩
 ·rw[k,hz,h8 (by omega),hy]
 ·intro e c' hf hc;obtain⟨b,k1,k2⟩:=m e c' hf hc;exact⟨b,k1,by unfold Row;rw[List.length_set];exact k2⟩
theorem aAm{T:dg}{a:da}(g:o.op= .load T a){H0:Heap}{K:aU->Prop}(h:nD P T H0 (ρ a) K):
 ∃e,K e/\bp P o ρ base e/\(∀p∈e.aj,H0[p.1]?=some p.2)/\(∀p∈e.aJ,p.1<H0.length/\p.2≠.hole):=by
 unfold nD at h
 split at h
 ·rename_i b J m
  split at h
  case h_2=>exact h.elim
  rename_i fz t u
  split at h
  case h_2=>exact h.elim
  rename_i s hs;obtain⟨hk,h⟩:=h;refine⟨_,h,bp.same fun H w aa ah β C j n aj=>?_,by simpa using u,by simp⟩;obtain⟨d,y⟩:=n a (by simp[g,gm]);rw[m]at d;simp only[aw,bK,bO]at d;have f:H[b]?=some (.box fz t):=by simpa using aj
  obtain⟨_,E,I,B,x,r,d⟩:=d;obtain⟨rfl,rfl⟩:=d (.inl ⟨fz,t,f⟩);obtain⟨cs,D,k1,k2,k3,k4⟩:=j.cE b _ f;obtain⟨pre,xs,post,e1,e2,e3,_⟩:=oB k2 hs r;obtain⟨l,g1,g2⟩:=BT g x hk e3 (by rw[<-e2];exact kW k1 e1);exact⟨l,g1,g2,ur hs (j.refs b _ f)⟩
 ·rename_i b ar ai i J m
  split at h
  case h_2=>exact h.elim
  rename_i k W S q u;obtain⟨rfl,rfl,hi,h⟩:=h
  split at h
  case h_2=>exact h.elim
  rename_i s hs;obtain⟨hk,h⟩:=h;refine⟨_,h,bp.same fun H w aa ah β C j n aj=>?_,by simpa using u,by simp⟩;obtain⟨d,y⟩:=n a (by simp[g,gm]);rw[m]at d;simp only[aw,bK,bO]at d;have f:H[b]?=some (.arr k ar ai q):=by simpa using aj
  have A:¬c7 k q:=fun G=>by rw[G.2]at hi;simp at hi
  obtain⟨_,E,I,B,x,r,d⟩:=d;obtain⟨rfl,rfl⟩:=d k q f A;rcases j.cE b _ f with hold|⟨cs,D,R,rest,k1,k2,k3,_⟩
  ·exact(A hold).elim
  obtain⟨M,c,L,N,O,U,Q,_⟩:=yC k2 hi;obtain⟨pre,xs,post,e1,e2,e3,_⟩:=oB Q hs r;have F:gz w (β.ak b) (i*ai+B) xs:=by
   have:cs.toList=(M++pre)++xs++(post++L++rest):=by rw[k3,N,e1];simp
   have z:=kW k1 this;rw[List.length_append,O,e2]at z;exact z
  obtain⟨l,g1,g2⟩:=BT g x hk e3 F;exact⟨l,g1,g2,ur hs (cG.1 (j.refs b _ f) _ (h0 hi))⟩
 ·rename_i t m;obtain⟨hk,h⟩:=h;refine⟨_,h,bp.same fun H w aa ah β C j n aj=>?_,by simp,by simp⟩;obtain⟨d,y⟩:=n a (by simp[g,gm]);rw[m]at d;simp only[aw,aA]at d;obtain⟨ak,off,V,k1,k2,k3,k4⟩:=d;obtain⟨l,g1,g2⟩:=BT (β:=β) (H:=H) (v:=.p t) g k4 (by simpa[ad]using hk) (by simpa only[bm]using k1) k3;exact⟨l,g1,g2,by simp[aB]⟩
 ·exact h.elim
end
section
variable{P:dl}{w:db}{aa ah:Nat->Prop}{β:Bd}{H:Heap}
mutual
theorem Ls:∀{v:PV}{cs:List c9},aS P w aa v cs->∀c∈cs,c.oneCell'=true
 | .undef,_,h| .aD _,_,h=>by simp[aS]at h
 | .bool _,_,h| .int _ _,_,h| .dD,_,h| .aF,_,h| .fo,_,h| .gX,_,h| .fG,_,h=>by simp only[aS]at h;subst h;simp[hm]
 | .str _,_,h=>by simp only[aS]at h;obtain⟨_,rfl,_⟩:=h;simp[hm]
 | .cr _,_,h=>by simp only[aS]at h;obtain⟨_,_,_,_,_,_,rfl⟩:=h;simp[hm]
 | .bI _ _,_,h=>by simp only[aS]at h;obtain⟨_,_,_,_,_,_,_,_,_,_,_,_,rfl⟩:=h;simp[hm]
 | .seq _,_,h=>by simp only[aS]at h;rcases h with⟨_,rfl⟩|⟨_,_,_,_,_,_,_,_,_,_,_,rfl⟩<;>simp[hm]
 | .eK _,_,h=>by simp only[aS]at h;obtain⟨_,_,_,_,_,_,rfl⟩:=h;simp[hm]
 | .func _ _ _,_,h=>by simp only[aS]at h;obtain⟨_,_,_,_,rfl⟩:=h;simp[hm]
 | .st u fs,_,h=>by
  simp only[aS]at h;obtain⟨l,a,b,d,rfl⟩:=h;exact Kk d
theorem Kk:∀{l:List Nat}{vs:List PV}{a:List (List c9)},bc P w aa l vs a->∀c∈a.flatten,c.oneCell'=true
 |[],[],_,h=>by simp only[bc]at h;subst h;simp
 |[],_::_,_,h=>by simp[bc]at h
 |_::_,[],_,h=>by simp[bc]at h
 |n::f,v::vs,a,h=>by
  simp only[bc]at h;obtain⟨c,cs,rfl,b,d,e⟩:=h;intro x hx;simp only[hD,hF]at hx;exact hx.elim (Ls b x) (Kk e x)
end
mutual
theorem xY:∀{v:AV}{cs:List c9},bm P w aa β H v cs->∀c∈cs,c.oneCell'=true
 | .p t,_,h=>by simp only[bm]at h;exact Ls h
 | .ptr ..,_,h| .b6 ..,_,h| .sl ..,_,h| .map ..,_,h=>by simp only[bm]at h;obtain⟨v,rfl,b,_⟩:=h;simpa using b
 | .func ..,_,h=>by simp only[bm]at h;obtain⟨_,_,_,_,rfl⟩:=h;simp[hm]
 | .aD _,_,h=>by simp[bm]at h
 | .st u fs,_,h=>by
  simp only[bm]at h;obtain⟨l,a,b,d,rfl⟩:=h;exact Kl d
theorem Kl:∀{l:List Nat}{vs:List AV}{a:List (List c9)},bJ P w aa β H l vs a->∀c∈a.flatten,c.oneCell'=true
 |[],[],_,h=>by simp only[bJ]at h;subst h;simp
 |[],_::_,_,h=>by simp[bJ]at h
 |_::_,[],_,h=>by simp[bJ]at h
 |n::f,v::vs,a,h=>by
  simp only[bJ]at h;obtain⟨c,cs,rfl,b,d,e⟩:=h;intro x hx;simp only[hD,hF]at hx;exact hx.elim (xY b x) (Kl e x)
end
theorem pq(d:bP P w aa β H ah){b:Nat}{o o':Obj}(c:H[b]?=some o)(j:o.live)(l:o'.live)(m:∀v,o.has v->o'.has v){q new:Array c9}{T:dg}
 (i:w.heap[β.ak b]?=some (.cells q T (0,0)))(e:¬aa (β.ak b)/\¬ah (β.ak b))(aK:ch β H β (H.set b o'))
 (n:eQ P (w.setRow (β.ak b) new) aa β (H.set b o') ah b o')(p:o'.refs (aG (H.set b o'))):
 bV P ah aa w β H aa (w.setRow (β.ak b) new) β (H.set b o'):=by
 refine bV.set d (ht.1 c).1 (fun _ _=>⟨rfl,rfl⟩) (fun _ x=>x) (fun _ x=>.inl x) (fun k hk=>by rw[eq];exact d.bR k hk) (by rw[eq];exact h7 _)
  (fun k hk _=>ei w _ k _ (hk.resolve_right (fun h=>h l))) (fun _=>.inr ⟨rfl,⟨o,c,j⟩,.inr e.1,e.2⟩) aK n p (fun r v a f=>by rw[c]at a;cases a;exact m v f) (fun L g=>by obtain⟨_,_,_,a,_⟩:=d.cE b _ g;rw[i]at a;cases a)
theorem oi{b:Nat}{o o':Obj}(l:H[b]?=some o)(hk:(∃f g t B,o= .box f t/\o'= .box g B)\/(∃k v z e m,o= .arr k v z e/\o'= .arr k v z m/\e.length=m.length)\/(∃f g e m,o= .map f e/\o'= .map g m)\/(∃s p y,o= .dv s p/\o'= .dv s y)):
 ch β H β (H.set b o'):=by
 have u:b<H.length:=(ht.1 l).1;have j:∀x,x≠b->(H.set b o')[x]?=H[x]?:=fun x hx=>hH (Ne.symm hx);have i:(H.set b o')[b]?=some o':=hw u;refine⟨?_,?_,?_,?_,?_⟩
 ·rintro x _ ⟨fz,t,h⟩;refine⟨?_,rfl⟩
  by_cases hx:x=b
  ·subst hx;rw[i]at h;cases h;rcases hk with⟨f,g,t1,t2,c,a⟩|⟨_,_,_,_,_,_,a,_⟩|⟨_,_,_,_,_,a⟩|⟨_,_,_,_,a⟩
   ·exact⟨f,t1,by rw[l,c]⟩
   all_goals cases a
  ·rw[j x hx]at h;exact⟨fz,t,h⟩
 ·rintro x _ ⟨s,p,h⟩;refine⟨?_,rfl⟩
  by_cases hx:x=b
  ·subst hx;rw[i]at h;cases h;rcases hk with⟨f,g,t1,t2,c,a⟩|⟨_,_,_,_,_,_,a,_⟩|⟨_,_,_,_,_,a⟩|⟨s1,n,A,c,a⟩
   ·cases a
   ·cases a
   ·cases a
   ·exact⟨s1,n,by rw[l,c]⟩
  ·rw[j x hx]at h;exact⟨s,p,h⟩
 ·rintro x _ ⟨w,h,d⟩;refine⟨?_,rfl⟩
  by_cases hx:x=b
  ·subst hx;rw[i]at h;cases h;rcases hk with⟨f,g,t1,t2,c,a⟩|⟨_,_,_,_,_,_,a,_⟩|⟨f,g,e1,e2,c,a⟩|⟨s1,n,A,c,a⟩
   ·rw[a]at d;exact d.elim
   ·rw[a]at d;exact d.elim
   ·exact⟨o,l,by rw[c];trivial⟩
   ·rw[a]at d;exact d.elim
  ·rw[j x hx]at h;exact⟨w,h,d⟩
 ·intro x ar ai k e _ h
  by_cases hx:x=b
  ·subst hx;unfold eA at h⊢;rw[i]at h;cases h;rcases hk with⟨f,g,t1,t2,c,a⟩|⟨k0,v,z,q,C,c,a,r⟩|⟨_,_,_,_,_,a⟩|⟨_,_,_,_,a⟩
   ·cases a
   ·cases a;refine⟨k,q,by rw[l,c],by omega,?_,fun _=>⟨rfl,rfl⟩⟩;unfold c7;rw[<-hB,<-hB,r]
   ·cases a
   ·cases a
  ·unfold eA at h⊢;rw[j x hx]at h;exact⟨k,e,h,h7 _,Iff.rfl,fun _=>⟨rfl,rfl⟩⟩
 ·rintro x _ ⟨L,h⟩;refine⟨?_,rfl⟩
  by_cases hx:x=b
  ·subst hx;rw[i]at h;cases h;rcases hk with⟨f,g,t1,t2,c,a⟩|⟨_,_,_,_,_,_,a,_⟩|⟨_,_,_,_,_,a⟩|⟨_,_,_,_,a⟩<;>cases a
  ·rw[j x hx]at h;exact⟨L,h⟩
variable{o:Oper}{ρ:da->AV}{base:Nat}
theorem HX{T:dg}{a x:da}(p:o.op= .store T a x){e:da->c9}{ak off:Nat}{b:List c9}{d:Array c9}{f:dg}(j:e a= .pointer (some ⟨ak,off,none⟩))
 (hx:(e x).cells.toList=b)(q:P.cellsOf T=b.length/\∃i,P.info? T=some i/\i.size=b.length)(k:w.heap[ak]?=some (.cells d f (0,0)))(n:∀c∈b,c.oneCell'=true)(m:off+b.length<=d.size):
 (dk e o).run P w=.ok .skip (w.setRow ak (d.toList.take off++b++d.toList.drop (off+b.length)).toArray):=by
 obtain⟨_,i,hi,l⟩:=q;have h:(sizeOf T).run P w=.ok b.length w:=by simp[sizeOf,typeInfo,hi,l]
 have g:=em (P:=P) ak off f b 0 d w k (by simpa using m) n;simp only[ih]at g;have r:(e x).cells.size=b.length:=by rw[<-hx];simp
 simp only[dk,p,Instr.storeAt,j,gb];simp[storeVar,h,r,hx,g]
theorem A2(u:dg)(fs:List AV):ad (gM u fs)=.agg u:=by
 unfold gM;split<;>rfl
theorem Vc{t:AV}{c:List (dg×Nat)}{x s d:AV}(hs:eD t c=some s)(a:fD t c x=some d)(e:ad s=ad x):ad d=ad t:=by
 cases c with
 |nil=>
  simp only[fD,i3]at a;subst a;have:s=t:=by
   cases t<;>simp[eD]at hs<;>exact hs.symm
  rw[<-e,this]
 |cons p r=>
  obtain⟨u,i⟩:=p;cases t<;>simp only[fD]at a
  case p t=>
   split at a
   case isFalse=>simp at a
   rename_i b
   split at a
   case h_2=>simp at a
   split at a
   case h_2=>simp at a
   simp only[i3]at a;subst a;rw[A2];simp[ad,b]
  case st u' fs=>
   split at a
   case isFalse=>simp at a
   rename_i b
   split at a
   case h_2=>simp at a
   split at a
   case h_2=>simp at a
   simp only[i3]at a;subst a;rw[A2];simp[ad,b]
  all_goals simp at a
theorem Wp{T:dg}{a x:da}(z:o.op= .store T a x){H0:Heap}{K:aU->Prop}(h:nq P T H0 (ρ a) (ρ x) K):
 ∃e,K e/\bp P o ρ base e/\(∀p∈e.aj,H0[p.1]?=some p.2)/\(∀p∈e.aJ,p.1<H0.length/\p.2≠.hole):=by
 unfold nq at h;obtain⟨hk,ac,h⟩:=h
 split at h
 ·rename_i b ap N
  split at h
  case h_2=>exact h.elim
  rename_i t B
  split at h
  case h_2=>exact h.elim
  rename_i s j hs r;obtain⟨J,h⟩:=h;refine⟨_,h,?_,by simpa using B,by simpa using(ht.1 B).1⟩;intro H w aa ah β f l D aj _;have d:H[b]?=some (.box false t):=by simpa using aj
  obtain⟨g,_⟩:=D a (by simp[z,gm]);obtain⟨ab,M⟩:=D x (by simp[z,gm]);rw[N]at g;simp only[aw,bK,bO]at g;obtain⟨_,al,Z,L,W,U,g⟩:=g;obtain⟨rfl,rfl⟩:=g (.inl ⟨false,t,d⟩);obtain⟨cs,A,k1,k2,k3,k4⟩:=l.cE b _ d;obtain⟨pre,xs,post,e1,e2,e3,e4⟩:=oB k2 hs U;have m:=xj ab ac;have q:(f x).cells.toList.length=xs.length:=by rw[(ng m).1,(ng e3).1,J]
  have ae:cs.size=pre.length+xs.length+post.length:=by
   have:=congrArg hM e1;simp at this;omega
  have C:=HX z W rfl (wN hk m) k1 (xY m) (by omega);have aR:(cs.toList.take Z++(f x).cells.toList++cs.toList.drop (Z+(f x).cells.toList.length))=pre++(f x).cells.toList++post:=by
   rw[e1,q,<-e2];simp
  rw[aR]at C;have aK:ch β H β (H.set b (.box false j)):=oi d (.inl ⟨_,_,_,_,rfl,rfl⟩);have Q:∀y,aG H y->aG (H.set b (.box false j)) y:=lj d (fun _ h=>h);have X:∀k,aa k->(w.setRow (β.ak b) (pre++(f x).cells.toList++post).toArray).heap[k]?=w.heap[k]?:=fun k S=>ei w _ k _ (fun O=>k3.1 (O▸S));have V:=pq l d trivial (o':=.box false j) trivial (fun _ h=>h) k1 (new:=(pre++(f x).cells.toList++post).toArray) k3 aK
   ⟨_,A,ew w _ _ _ A _ k1,bm.mono (fun _ x=>x) X aK _ _ (uu r (l.refs b _ d) M) (e4 _ _ _ r m q),k3,by simp,by rw[Vc hs r J];exact k4.2⟩
   (aB.mono Q _ (uu r (l.refs b _ d) M))
  exact⟨_,_,_,β,aa,C,.inr ⟨rfl,rfl⟩,V,by simp[aw,aA,bn,undef],by simp[aB]⟩
 ·rename_i b ar ai i ap N
  split at h
  case h_2=>exact h.elim
  rename_i k aD az n B;obtain⟨rfl,rfl,ag,hi,h⟩:=h
  split at h
  case h_2=>exact h.elim
  rename_i s j hs r;obtain⟨J,h⟩:=h;refine⟨_,h,?_,by simpa using B,by simpa using(ht.1 B).1⟩;intro H w aa ah β f l D aj _;have d:H[b]?=some (.arr k ar ai n):=by simpa using aj
  obtain⟨g,_⟩:=D a (by simp[z,gm]);obtain⟨ab,M⟩:=D x (by simp[z,gm]);rw[N]at g;simp only[aw,bK,bO]at g;have I:¬c7 k n:=fun G=>by rw[G.2]at hi;simp at hi
  obtain⟨_,al,Z,L,W,U,g⟩:=g;obtain⟨rfl,rfl⟩:=g k n d I;rcases l.cE b _ d with hold|⟨cs,A,ay,rest,k1,k2,k3,k4,k5,k6,k7,k8⟩
  ·exact(I hold).elim
  have af:¬aa (β.ak b)/\¬ah (β.ak b):=by
   unfold cw at k7;rw[if_neg (by simpa using ag)]at k7;exact k7
  obtain⟨u,c,F,aq,au,aC,av,ax⟩:=yC k2 hi;obtain⟨pre,xs,post,e1,e2,e3,e4⟩:=oB av hs U;have m:=xj ab ac;have q:(f x).cells.toList.length=xs.length:=by rw[(ng m).1,(ng e3).1,J]
  have ad:cs.toList=(u++pre)++xs++(post++F++rest):=by rw[k3,aq,e1];simp
  have ae:cs.size=(u++pre).length+xs.length+(post++F++rest).length:=by
   have:=congrArg hM ad;simp at this⊢;omega
  have ao:(u++pre).length=i*ai+L:=by simp[au,e2]
  have C:=HX z W rfl (wN hk m) k1 (xY m) (by omega);have aR:(cs.toList.take (i*ai+L)++(f x).cells.toList++cs.toList.drop (i*ai+L+(f x).cells.toList.length))=(u++pre)++(f x).cells.toList++(post++F++rest):=by
   rw[ad,q,<-ao,hE (u++pre),List.take_left',List.drop_append,hE]
   ·simp
   ·rfl
  rw[aR]at C;obtain⟨am,c1,c2⟩:=ax j _ (e4 _ _ _ r m q) (by rw[e1];simp[q]);have aK:ch β H β (H.set b (.arr k ar ai (n.set i j))):=oi d (.inr (.inl ⟨_,_,_,_,_,rfl,rfl,by simp⟩));have Q:∀y,aG H y->aG (H.set b (.arr k ar ai (n.set i j))) y:=lj d (fun _ h=>h);have an:¬c7 k (n.set i j):=fun G=>I ⟨G.1,by have:=G.2;rw[List.set_eq_nil_iff]at this;exact this⟩;have ak:aQ (aG H) (n.set i j):=by
   rw[cG];intro v Y;rcases hN Y with Y|rfl
   ·exact cG.1 (l.refs b _ d) v Y
   ·exact uu r (cG.1 (l.refs b _ d) _ (h0 hi)) M
  have X:∀E,aa E->(w.setRow (β.ak b) ((u++pre)++(f x).cells.toList++(post++F++rest)).toArray).heap[E]?=w.heap[E]?:=fun E S=>ei w _ E _ (fun O=>af.1 (O▸S));have V:=pq l d I (o':=.arr k ar ai (n.set i j)) an (fun _ h=>h) k1 (new:=((u++pre)++(f x).cells.toList++(post++F++rest)).toArray) af aK
   (.inr ⟨_,A,am,rest,ew w _ _ _ A _ k1,bJ.mono (fun _ x=>x) X aK _ _ _ ak c2,by rw[c1];simp,by
    rw[<-k4,ae];simp[q];omega,by simpa using k5,fun R=>by rw[k6 R];simp,k7,(fun R=>(ag R).elim),k8.2⟩)
   (aQ.mono Q _ ak)
  exact⟨_,_,_,β,aa,C,.inr ⟨rfl,rfl⟩,V,by simp[aw,aA,bn,undef],by simp[aB]⟩
 ·exact h.elim
end
section
variable{P:dl}{w:db}{aa ah:Nat->Prop}{β:Bd}{H:Heap}
theorem Am(P:dl)(T:dg):P.underlying T=(P.info? (P.underlyingId T)).map (fun i:dq=>i.desc):=by
 unfold g7 g8;cases hi:P.info? T with
 |none=>simp[hi]
 |some i=>
  obtain⟨d,_,_,_,_,_,_,_,_,_⟩:=i;cases d<;>simp[hi]
theorem AF{T u:dg}(h:kindOf P T=.agg u):u=P.underlyingId T/\(∃l,dH P u=some l)/\P.cellsOf T=P.cellsOf u:=by
 unfold kindOf at h
 split at h
 ·split at h
  ·rename_i hc;simp at h;subst h;simp at hc;exact⟨rfl,iz.1 hc.1,hc.2⟩
  ·simp at h
 ·split at h
  ·rename_i hc;simp at h;subst h;simp at hc;exact⟨rfl,iz.1 hc.1,hc.2⟩
  ·simp at h
 ·split at h<;>simp at h
 ·simp at h
theorem tV{T u:dg}{n:Nat}(h:fx P T=some (u,n)):∃fs l,P.underlying T=some (.struct fs)/\fs.size=n/\kindOf P T= .agg u/\dH P u=some l/\l.length=n/\
 ∀(i:Nat)(_hi:i<n),∃f,fs[i]?=some f/\f.offset=(l.take i).sum/\l[i]?=some (P.cellsOf f.type)/\0<P.cellsOf f.type/\(jc P u)[i]?=some f.type:=by
 unfold fx at h
 split at h
 case h_2=>simp at h
 rename_i u' fs hk c;simp at h;obtain⟨rfl,rfl⟩:=h;obtain⟨g,⟨l,a⟩,_⟩:=AF hk;refine⟨fs,l,c,rfl,hk,a,?_⟩;have b:(P.info? u').map (fun i:dq=>i.desc)=some (.struct fs):=by rw[g,<-Am,c]
 unfold dH at a;rw[b]at a;dsimp only at a
 split at a
 case isFalse=>simp at a
 rename_i hc;simp at a;simp only[cy,h1,decide_eq_true_eq,beq_iff_eq]at hc;obtain⟨⟨d,j⟩,e⟩:=hc;subst a;refine⟨by simp,fun i hi=>?_⟩;refine⟨fs[i],by simp[hi],?_,by simp[hi],?_,?_⟩
 ·have:=e (fs[i],i) (by rw[List.mem_iff_getElem?];exact⟨i,by simp[hi]⟩);simpa using this
 ·have:=d (P.cellsOf fs[i].type) (by simp;exact⟨fs[i],by simp,rfl⟩);exact this
 ·unfold jc;rw[b];simp[hi]
theorem rV{T u:dg}{n:Nat}(h:gK P T=some (u,n)):∃e,P.underlying T=some (.array n e)/\kindOf P T=.agg u/\dH P u=some (hv n (P.cellsOf e))/\0<P.cellsOf e:=by
 unfold gK at h
 split at h
 case h_2=>simp at h
 rename_i u' g e hk b;simp at h;obtain⟨rfl,rfl⟩:=h;obtain⟨d,⟨l,a⟩,_⟩:=AF hk;have c:(P.info? u').map (fun i:dq=>i.desc)=some (.array g e):=by rw[d,<-Am,b]
 have f:=a;unfold dH at a;rw[c]at a;dsimp only at a
 split at a
 case isFalse=>simp at a
 rename_i hc;simp at a hc;exact⟨e,b,hk,by rw[f,a],hc.1⟩
theorem wO{p q:List (dg×Nat)}{a b:Nat}(c:fN P p=some a)(f:fN P q=some b):fN P (p++q)=some (a+b):=by
 induction p generalizing a with
 |nil=>simp[fN]at c;subst c;simpa using f
 |cons x p g=>
  obtain⟨u,i⟩:=x;simp only[fN]at c;cases d:dH P u with
  |none=>simp[d]at c
  |some l=>
   cases e:fN P p with
   |none=>simp[d,e]at c
   |some a'=>
    simp[d,e]at c;obtain⟨hi,rfl⟩:=c;simp only[List.cons_append,fN,d,g e,if_pos hi];congr 1;omega
theorem wS{u:dg}{i:Nat}{l:List Nat}(a:dH P u=some l)(hi:i<l.length):fN P [(u,i)]=some (l.take i).sum:=by
 simp[fN,a,hi]
variable{o:Oper}{ρ:da->AV}{base:Nat}
theorem jO(ak off n:Nat):(⟨ak,off,none⟩:Addr).add n=⟨ak,off+n,none⟩:=by unfold Addr.add;split<;>simp_all
theorem RZ{T:dg}{a:da}{f:Nat}(v:o.op= .fieldAddr T a f){K:aU->Prop}(h:mV P T (ρ a) f K):
 ∃e,K e/\bp P o ρ base e/\e.aj=[]/\e.aJ=[]:=by
 unfold mV at h
 split at h
 case h_2=>exact h.elim
 rename_i u n aK;obtain⟨hf,h⟩:=h;obtain⟨fs,l,L,x,hk,G,O,E⟩:=tV aK;obtain⟨fd,g1,g2,g3,g4,g5⟩:=E f hf;have z:=wS G (by omega:f<l.length);have B:∀(w:db)(d:da->c9)(ak off:Nat),d a=.pointer (some ⟨ak,off,none⟩)->(dk d o).run P w=.ok (.value (.pointer (some ⟨ak,off+(l.take f).sum,none⟩))) w:=by
  intro w d ak off m;obtain⟨i,hi⟩:∃i,P.info? fd.type=some i:=by
   cases hi:P.info? fd.type with
   |none=>simp[g0,hi]at g4
   |some i=>exact⟨i,rfl⟩
  have J:(sizeOf fd.type).run P w=.ok (P.cellsOf fd.type) w:=by simp[sizeOf,typeInfo,hi,g0]
  simp only[dk,v];refine eh ?_;have I:¬P.cellsOf fd.type=0:=by omega
  simp[Instr.fieldAt,c6 L,g1,m,gb,fieldPlace,J,I,jO,g2]
 split at h
 ·rename_i b N m;refine⟨_,h,bp.same fun H w aa ah β d D r _=>?_,rfl,rfl⟩;obtain⟨c,j⟩:=r a (by simp[v,gm]);rw[m]at c j;simp only[aw,bK,bO,aB]at c j;obtain⟨_,ak,off,M,A,y,p⟩:=c;refine⟨_,B w d _ _ A,?_,by simpa[aB]using j⟩;simp only[aw,bK,bO];exact⟨rfl,_,_,_,rfl,wO y z,fun q=>⟨(p q).1,by rw[(p q).2]⟩⟩
 ·rename_i b ar ai i N m;refine⟨_,h,bp.same fun H w aa ah β d D r _=>?_,rfl,rfl⟩;obtain⟨c,j⟩:=r a (by simp[v,gm]);rw[m]at c j;simp only[aw,bK,bO,aB]at c j;obtain⟨_,ak,off,M,A,y,p⟩:=c;refine⟨_,B w d _ _ A,?_,by simpa[aB]using j⟩;simp only[aw,bK,bO];exact⟨rfl,_,_,_,rfl,wO y z,fun k C q x=>⟨(p k C q x).1,by rw[(p k C q x).2];omega⟩⟩
 ·rename_i t m;obtain⟨hs,h⟩:=h
  split at h
  case h_2=>exact h.elim
  rename_i g F;refine⟨_,h,?_,rfl,rfl⟩;refine bp.same fun H w aa ah β d D r _=>?_;obtain⟨c,_⟩:=r a (by simp[v,gm]);rw[m]at c;simp only[aw,aA]at c;obtain⟨ak,off,Q,k1,k2,k3,k4⟩:=c;refine⟨_,B w d _ _ k4,?_,by simp[aB]⟩;obtain⟨pre,xs,post,e1,e2,e3⟩:=xK (path:=[(u,f)]) (s:=g) k1 (by simp[kn,hs,F]) z;simp only[aw,aA];refine⟨ak,off+(l.take f).sum,xs,e3,k2,?_,rfl⟩;intro i hi;have:=k3 (pre.length+i) (by rw[e1];simp;omega);rw[<-e2,ip,this];congr 1;simp only[e1,hE];rw[hO (by omega)];simp only[ii];rw[hP hi]
 ·exact h.elim
end
section
variable{P:dl}{w:db}{aa ah:Nat->Prop}{β:Bd}{H:Heap}
variable{o:Oper}{ρ:da->AV}{base:Nat}
theorem rG{ak off:Nat}{a pre xs post:List c9}(h:gz w ak off a)(e:a=pre++xs++post):gz w ak (off+pre.length) xs:=by
 intro i hi;have:=h (pre.length+i) (by rw[e];simp;omega);rw[ip,this];congr 1;simp only[e,hE];rw[hO (by omega)];simp only[ii];rw[hP hi]
structure pB(P:dl)(T:dg)(sz:Nat)(e:dg)(i:dq):Prop where
 fU:P.underlying T=some (.slice e)
 info:P.info? e=some i
 size:i.size=sz
 pos:0<sz
 bytes:i.bytes<32768
 aFk:0<i.bytes
 pj:dN P T=e
theorem jJ{T:dg}{sz:Nat}(h:cL P T=some sz):∃e i,pB P T sz e i:=by
 unfold cL at h
 split at h
 case h_2=>simp at h
 rename_i e a
 split at h
 case h_2=>simp at h
 rename_i i hi
 split at h
 case isFalse=>simp at h
 rename_i hc;simp at h;subst h;exact⟨e,i,a,hi,rfl,hc.2.1,hc.1,hc.2.2,by simp[dN,a]⟩
theorem pB.run{T:dg}{sz:Nat}{e:dg}{i:dq}(h:pB P T sz e i)(w:db):(sizeOf e).run P w=.ok sz w:=by
 simp[sizeOf,typeInfo,h.info,h.size]
theorem RY{T:dg}{x S:da}(B:o.op= .indexAddr T x S){H0:Heap}{K:aU->Prop}(h:mU P T H0 (ρ x) (ρ S) K):
 ∃e,K e/\bp P o ρ base e/\(∀p∈e.aj,H0[p.1]?=some p.2)/\e.aJ=[]:=by
 unfold mU at h
 split at h
 case h_2=>exact h.elim
 rename_i au n an;obtain⟨C,h⟩:=h;have E:x∈o.op.operands:=by simp[B,gm]
 have ao:S∈o.op.operands:=by simp[B,gm]
 have D:∀{H:Heap}{w:db}{aa:Nat->Prop}{β:Bd}{z:da->c9},(∀y∈o.op.operands,aw P w aa β H (ρ y) (z y)/\aB (aG H) (ρ y))->z S=.int au n:=by
  intro H w aa β z f;have:=(f S ao).1;rw[an]at this;simpa[aw,aA]using this
 split at h
 ·
  rename_i full d hx;obtain⟨j,r,h⟩:=h;obtain⟨e,al,A⟩:=jJ r;refine⟨_,h,bp.same fun H w aa ah β z O f _=>?_,by simp,rfl⟩;obtain⟨a,_⟩:=f x E;rw[hx]at a;simp only[aw,aA]at a;obtain⟨ak,off,cap,ai,V,k1,k2,k3,k4,k5,sp,ac,k6⟩:=a;obtain rfl:sp=none:=ac.resolve_right (by omega);have ab:Row P w aa ⟨id,id⟩ [] ai (d.map .p) V:=lh.2 k1;obtain⟨pre,c,post,ad,ae,af,U,_⟩:=yC ab (i:=n.toNat) (by simpa using j);have M:aS P w aa d[n.toNat] c:=by
   have:(d.map AV.p)[n.toNat]'(by simpa using j)=.p d[n.toNat]:=by simp
   rw[this]at U;simpa only[bm]using U
  have X:bF P (aL d[n.toNat])=ai:=by rw[<-(mW M).1,af]
  refine⟨.pointer (some ⟨ak,off+n.toNat*ai,none⟩),?_,?_,by simp[aB]⟩
  ·simp only[dk,B];refine eh ?_;have q:n<(d.length:Int):=by omega
   simp[ge,D f,asIntOf,c6 A.fU,k6,C,q,A.run,X,jO]
  ·simp only[aw,aA];refine⟨ak,off+n.toNat*ai,c,M,k2 (by intro F;rw[F]at j;simp at j),?_,rfl⟩;rw[<-ae];exact rG k3 ad
 ·
  rename_i d hx;obtain⟨j,r,h⟩:=h;obtain⟨e,al,A⟩:=jJ r;refine⟨_,h,bp.same fun H w aa ah β z O f _=>?_,by simp,rfl⟩;obtain⟨a,_⟩:=f x E;rw[hx]at a;simp only[aw,aA]at a;rcases a with⟨rfl,_⟩|⟨ak,off,cap,ai,V,k1,k2,k3,k5,sp,ac,k6⟩
  ·simp at j
  obtain rfl:sp=none:=ac.resolve_right (by omega);have ab:Row P w aa ⟨id,id⟩ [] ai (d.map .p) V:=lh.2 k1;obtain⟨pre,c,post,ad,ae,af,U,_⟩:=yC ab (i:=n.toNat) (by simpa using j);have M:aS P w aa d[n.toNat] c:=by
   have:(d.map AV.p)[n.toNat]'(by simpa using j)=.p d[n.toNat]:=by simp
   rw[this]at U;simpa only[bm]using U
  have X:bF P (aL d[n.toNat])=ai:=by rw[<-(mW M).1,af]
  refine⟨.pointer (some ⟨ak,off+n.toNat*ai,none⟩),?_,?_,by simp[aB]⟩
  ·simp only[dk,B];refine eh ?_;have q:n<(d.length:Int):=by omega
   simp[ge,D f,asIntOf,c6 A.fU,k6,C,q,A.run,X,jO]
  ·simp only[aw,aA];refine⟨ak,off+n.toNat*ai,c,M,k2 (by intro F;rw[F]at j;simp at j),?_,rfl⟩;rw[<-ae];exact rG k3 ad
 ·
  rename_i b ar ai off len hx;obtain⟨r,j,h⟩:=h;obtain⟨e,al,A⟩:=jJ r
  split at h
  case h_2=>exact h.elim
  rename_i k aF az d aq;obtain⟨rfl,rfl,ap,h⟩:=h;refine⟨_,h,bp.same fun H w aa ah β z O f aj=>?_,by simpa using aq,rfl⟩;obtain⟨a,l⟩:=f x E;rw[hx]at a l;simp only[aw,bK,bO,aB]at a l;have ag:H[b]?=some (.arr k ar ai d):=by simpa using aj
  obtain⟨g1,g2,W⟩:=a.2 k d ag;have W:=W ap;refine⟨.pointer (some ⟨β.ak b,off*ai+n.toNat*ai,none⟩),?_,?_,by simpa[aB]using l⟩
  ·simp only[dk,B];refine eh ?_;have q:n<(len:Int):=by omega
   simp[ge,D f,asIntOf,c6 A.fU,W,C,q,A.run,jO]
  ·simp only[aw,bK,bO];refine⟨rfl,_,_,0,rfl,rfl,fun aD ay v aC=>?_⟩;unfold eA at v;rw[ag]at v;cases v;exact⟨rfl,by rw[ix];simp⟩
 ·
  rename_i b ax hx
  split at h
  case h_2=>exact h.elim
  rename_i u m G;obtain⟨j,h⟩:=h;obtain⟨e,R,hk,I,N⟩:=rV G;refine⟨_,h,bp.same fun H w aa ah β z O f _=>?_,by simp,rfl⟩;obtain⟨a,l⟩:=f x E;rw[hx]at a l;simp only[aw,bK,bO,aB]at a l;obtain⟨_,ak,off,av,Z,Y,v⟩:=a;have L:=wS I (i:=n.toNat) (by simpa using j);have Q:((hv m (P.cellsOf e)).take n.toNat).sum=n.toNat*P.cellsOf e:=by rw[hz,h8 (by omega),hy]
  have r:(sizeOf e).run P w=.ok (P.cellsOf e) w:=by
   cases hi:P.info? e with
   |none=>simp[g0,hi]at N
   |some i=>simp[sizeOf,typeInfo,hi,g0]
  refine⟨.pointer (some ⟨ak,off+n.toNat*P.cellsOf e,none⟩),?_,?_,by simpa[aB]using l⟩
  ·simp only[dk,B];refine eh ?_;have q:n<(m:Int):=by omega
   simp[ge,D f,asIntOf,c6 R,Z,gb,C,q,r,jO]
  ·simp only[aw,bK,bO];exact⟨rfl,_,_,_,rfl,wO Y L,fun J=>⟨(v J).1,by rw[(v J).2,Q]⟩⟩
 ·rename_i b ar ai i ax hx
  split at h
  case h_2=>exact h.elim
  rename_i u m G;obtain⟨j,h⟩:=h;obtain⟨e,R,hk,I,N⟩:=rV G;refine⟨_,h,bp.same fun H w aa ah β z O f _=>?_,by simp,rfl⟩;obtain⟨a,l⟩:=f x E;rw[hx]at a l;simp only[aw,bK,bO,aB]at a l;obtain⟨_,ak,off,av,Z,Y,v⟩:=a;have L:=wS I (i:=n.toNat) (by simpa using j);have Q:((hv m (P.cellsOf e)).take n.toNat).sum=n.toNat*P.cellsOf e:=by rw[hz,h8 (by omega),hy]
  have r:(sizeOf e).run P w=.ok (P.cellsOf e) w:=by
   cases hi:P.info? e with
   |none=>simp[g0,hi]at N
   |some i=>simp[sizeOf,typeInfo,hi,g0]
  refine⟨.pointer (some ⟨ak,off+n.toNat*P.cellsOf e,none⟩),?_,?_,by simpa[aB]using l⟩
  ·simp only[dk,B];refine eh ?_;have q:n<(m:Int):=by omega
   simp[ge,D f,asIntOf,c6 R,Z,gb,C,q,r,jO]
  ·simp only[aw,bK,bO];exact⟨rfl,_,_,_,rfl,wO Y L,fun k d J F=>⟨(v k d J F).1,by rw[(v k d J F).2,Q];omega⟩⟩
 ·rename_i t hx
  split at h
  case h_2=>exact h.elim
  rename_i u m G;obtain⟨hs,j,h⟩:=h
  split at h
  case h_2=>exact h.elim
  rename_i g am;obtain⟨e,R,hk,I,N⟩:=rV G;refine⟨_,h,bp.same fun H w aa ah β z O f _=>?_,by simp,rfl⟩;obtain⟨a,_⟩:=f x E;rw[hx]at a;simp only[aw,aA]at a;obtain⟨ak,off,aE,k1,k2,k3,k4⟩:=a;have L:=wS I (i:=n.toNat) (by simpa using j);have Q:((hv m (P.cellsOf e)).take n.toNat).sum=n.toNat*P.cellsOf e:=by rw[hz,h8 (by omega),hy]
  have r:(sizeOf e).run P w=.ok (P.cellsOf e) w:=by
   cases hi:P.info? e with
   |none=>simp[g0,hi]at N
   |some i=>simp[sizeOf,typeInfo,hi,g0]
  obtain⟨pre,xs,post,e1,e2,e3⟩:=xK (path:=[(u,n.toNat)]) (s:=g) k1 (by simp[kn,hs,am]) L;refine⟨.pointer (some ⟨ak,off+n.toNat*P.cellsOf e,none⟩),?_,?_,by simp[aB]⟩
  ·simp only[dk,B];refine eh ?_;have q:n<(m:Int):=by omega
   simp[ge,D f,asIntOf,c6 R,k4,gb,C,q,r,jO]
  ·simp only[aw,aA];refine⟨ak,_,xs,e3,k2,?_,rfl⟩;rw[<-Q,<-e2];exact rG k3 e1
 ·exact h.elim
theorem aC3{bs:ByteArray}{s:List Nat}(h:s=bs.data.toList.map (·.toNat)){i:Nat}(hi:i<s.length):∃b:UInt8,bs[i]?=some b/\b.toNat=s[i]:=by
 subst h;have a:i<bs.size:=by simpa using hi
 refine⟨bs[i],by simp[a],?_⟩;simp only[List.getElem_map,cc];rfl
theorem S1{T:dg}{x f:da}{s:List Nat}{k:en}{n:Int}(e:o.op= .index T x f)(hx:ρ x= .p (.str s))(hi:ρ f= .p (.int k n))(d:ia P T=true)(i:0<=n)(g:n.toNat<s.length):
 bp P o ρ base {v:=.p (.int .u8 (s[n.toNat]'g))}:=by
 refine bp.same fun H w aa ah β m l h _=>?_;have a:=(h x (by simp[e,gm])).1;have c:=(h f (by simp[e,gm])).1;rw[hx]at a;rw[hi]at c;simp only[aw,aA]at a c;obtain⟨bs,e1,e2⟩:=a;obtain⟨b,g1,g2⟩:=aC3 e2 g;have j:P.underlying T=some .string:=by
  unfold ia at d
  split at d
  ·assumption
  ·simp at d
 refine⟨.int .u8 b.toNat,?_,by simp[aw,aA,g2],by simp[aB]⟩;simp only[dk,e,e1,c];refine eh ?_;simp[Instr.index,asIntOf,c6 j,i,g1]
theorem Tp{S D:dg}{x:da}{k k0:en}{n:Int}(b:o.op= .convert S D x)(e:∃d,P.underlying S=some d)(c:P.underlying D=some (.int k))(hx:ρ x= .p (.int k0 n)):
 bp P o ρ base {v:=.p (.int k (k.wrap n))}:=by
 refine bp.same fun H w aa ah β i h g _=>?_;have a:=(g x (by simp[b,gm])).1;rw[hx]at a;simp only[aw,aA]at a;obtain⟨d,f⟩:=e;refine⟨.int k (k.wrap n),?_,by simp[aw,aA],by simp[aB]⟩;simp only[dk,b,a];refine eh ?_;simp[convert,c6 f,c6 c,Conv.intToInt]
theorem To{S D:dg}{x:da}{s:List Nat}(b:o.op= .convert S D x)(e:∃d,P.underlying S=some d)(c:P.underlying D=some .string)(hx:ρ x= .p (.str s)):
 bp P o ρ base {v:=.p (.str s)}:=by
 refine bp.same fun H w aa ah β i h g _=>?_;have a:=(g x (by simp[b,gm])).1;rw[hx]at a;simp only[aw,aA]at a;obtain⟨bs,e1,e2⟩:=a;obtain⟨d,f⟩:=e;refine⟨.string bs,?_,by simp only[aw,aA];exact⟨bs,rfl,e2⟩,by simp[aB]⟩;simp only[dk,b,e1];refine eh ?_;simp only[convert,hb,c6 f,c6 c,ha];cases d<;>simp
theorem Uh{b ar ai off len:Nat}{k:AK}{d:List AV}{v:c9}(h:aw P w aa β H (.sl b ar ai off len) v)(j:H[b]?=some (.arr k ar ai d)):∃a c,v=.slice a len c:=by
 simp only[aw,bK,bO]at h;obtain⟨f,g,i⟩:=h.2 k d j
 by_cases e:c7 k d
 ·rw[g e];have:len=0:=by rw[e.2]at f;simp at f;omega
  subst this;exact⟨_,_,rfl⟩
 ·exact⟨_,_,i e⟩
theorem AO:∀{b:List (PV×PV)}{a:List MapEntry},cz P w aa b a->a.length=b.length
 |[],a,h=>by simp only[cz]at h;subst h;rfl
 |(k,v)::r,a,h=>by
  simp only[cz]at h;obtain⟨e,rest,rfl,d,f,c⟩:=h;simp[AO c]
theorem aAl{c:Call}{x:da}{n:Nat}{aj:List (Nat×Obj)}{H0:Heap}(G:o.op= .call c)(hc:c.callee= .builtin .len)(E:c.args.toList=[x])(i:lenOf H0 (ρ x)=some (n,aj))(d:gF P (c.argTypes.getD 0 0) (ρ x)=true)(O:0<c.argTypes.size):
 bp P o ρ base {v:=.p (.int .i64 n),aj}/\(∀p∈aj,H0[p.1]?=some p.2):=by
 have u:x∈o.op.operands:=by
  rw[G];simp only[gm,Call.operands,hc];simp;rw[<-b1,E];simp
 have J:c.args=#[x]:=by apply b2;simpa using E
 have q:c.argTypes[0]?=some (c.argTypes.getD 0 0):=by simp[cv,O]
 have t:∀{H:Heap}{w:db}{aa:Nat->Prop}{β:Bd}{m:da->c9},((e8 c.argTypes o.type #[m x]).run P w= .ok (goInt n) w)->
  ∃D,(dk m o).run P w=.ok (.value D) w/\aw P w aa β H (.p (.int .i64 n)) D/\aB (aG H) (.p (.int .i64 n)):=by
  intro H w aa β m L;refine⟨goInt n,?_,by simp[aw,aA,goInt],by simp[aB]⟩;simp only[dk,G,resolve,hc,J];simp[invoke,builtin,L]
 have N:∀T:dg,ia P T=true->P.underlying T=some .string:=by
  intro T h;unfold ia at h
  split at h
  ·assumption
  ·simp at h
 generalize R:c.argTypes.getD 0 0=T at*;unfold lenOf at i
 split at i
 ·rename_i s hx;simp at i;obtain⟨rfl,rfl⟩:=i;rw[hx]at d;simp only[gF]at d;refine⟨bp.same fun H w aa ah β m y j _=>t ?_,by simp⟩;have g:=(j x u).1;rw[hx]at g;simp only[aw,aA]at g;obtain⟨bs,e1,e2⟩:=g;have hs:s.length=bs.size:=by rw[e2];simp
  simp[e8,q,c6 (N _ d),e1,hs]
 ·rename_i hx;simp at i;obtain⟨rfl,rfl⟩:=i;rw[hx]at d;refine⟨bp.same fun H w aa ah β m y j _=>t ?_,by simp⟩;have g:=(j x u).1;rw[hx]at g;simp only[aw,aA]at g;simp only[gF]at d
  split at d
  ·rename_i e l;simp[e8,q,c6 l,g]
  ·simp at d
 ·rename_i hx;simp at i;obtain⟨rfl,rfl⟩:=i;rw[hx]at d;refine⟨bp.same fun H w aa ah β m y j _=>t ?_,by simp⟩;have g:=(j x u).1;rw[hx]at g;simp only[aw,aA]at g;simp only[gF]at d
  split at d
  ·rename_i k e l;simp[e8,q,c6 l,g]
  ·simp at d
 ·rename_i f z hx;simp at i;obtain⟨rfl,rfl⟩:=i;rw[hx]at d;refine⟨bp.same fun H w aa ah β m y j _=>t ?_,by simp⟩;have g:=(j x u).1;rw[hx]at g;simp only[aw,aA]at g;obtain⟨ak,off,cap,ai,I,k1,k2,k3,k4,k5,sp,M,k6⟩:=g;simp only[gF]at d
  split at d
  ·rename_i e l;simp[e8,q,c6 l,k6]
  ·simp at d
 ·rename_i z hx;simp at i;obtain⟨rfl,rfl⟩:=i;rw[hx]at d;refine⟨bp.same fun H w aa ah β m y j _=>t ?_,by simp⟩;have g:=(j x u).1;rw[hx]at g;simp only[aw,aA]at g;simp only[gF]at d
  split at d
  ·rename_i e l;rcases g with⟨rfl,k6⟩|⟨ak,off,cap,ai,I,k1,k2,k3,k5,sp,M,k6⟩
   ·simp[e8,q,c6 l,k6]
   ·simp[e8,q,c6 l,k6]
  ·simp at d
 ·rename_i z hx;simp at i;obtain⟨rfl,rfl⟩:=i;rw[hx]at d;refine⟨bp.same fun H w aa ah β m y j _=>t ?_,by simp⟩;have g:=(j x u).1;rw[hx]at g;simp only[aw,aA]at g;obtain⟨r,A,clock,k1,k2,k3,k4⟩:=g;simp only[gF]at d
  split at d
  ·rename_i k e l;have:=AO k3;have B:(getObj r).run P w=.ok (.map A clock) w:=by simp[getObj,hg,k2]
   simp at this;simp[e8,q,c6 l,k4,B,this]
  ·simp at d
 ·rename_i b ar ai off len hx
  split at i
  case h_2=>simp at i
  rename_i k S Q z C
  split at i
  case isFalse=>simp at i
  rename_i K;obtain⟨rfl,rfl⟩:=K;simp at i;obtain⟨rfl,rfl⟩:=i;rw[hx]at d;refine⟨bp.same fun H w aa ah β m y j aj=>t ?_,by simpa using C⟩;have g:=(j x u).1;rw[hx]at g;obtain⟨a,cp,e1⟩:=Uh g (by simpa using aj);simp only[gF]at d
  split at d
  ·rename_i e l;simp[e8,q,c6 l,e1]
  ·simp at d
 ·rename_i b hx
  split at i
  case h_2=>simp at i
  rename_i fz z C;simp at i;obtain⟨rfl,rfl⟩:=i;rw[hx]at d;refine⟨bp.same fun H w aa ah β m y j aj=>t ?_,by simpa using C⟩;have g:=(j x u).1;rw[hx]at g;simp only[aw,bK,bO]at g;have F:H[b]?=some (.map fz z):=by simpa using aj
  obtain⟨A,clock,k2,k3,_⟩:=y.cE b _ F;have e1:=g.2.1 ⟨_,F,trivial⟩;simp only[gF]at d
  split at d
  ·rename_i k e l;have:=AO k3;have B:(getObj (β.ak b)).run P w=.ok (.map A clock) w:=by simp[getObj,hg,k2]
   simp at this;simp[e8,q,c6 l,e1,B,this]
  ·simp at d
 ·simp at i
end
section
variable{P:dl}{w:db}{aa ah:Nat->Prop}{β:Bd}{H:Heap}
variable{o:Oper}{ρ:da->AV}{base:Nat}
theorem JG:∀(a:List c9)(off j:Nat)(cells:Array c9),off+j+a.length<=cells.size->
 ((a.zipIdx j).foldl (fun cs(p:c9×Nat)=>cs.setIfInBounds (off+p.2) p.1) cells).toList=cells.toList.take (off+j)++a++cells.toList.drop (off+j+a.length)
 |[],off,j,cells,_=>by simp
 |x::a,off,j,cells,h=>by
  simp only[List.zipIdx_cons,List.foldl_cons];rw[JG a off (j+1) _ (by simp at h⊢;omega)];simp only[Array.toList_setIfInBounds,hZ];have d:off+j<cells.toList.length:=by simp at h⊢;omega
  rw[show off+(j+1)=off+j+1 by omega];have b:(cells.toList.set (off+j) x).take (off+j+1)=cells.toList.take (off+j)++[x]:=by
   rw[List.take_succ_eq_append_getElem (by simpa using d)];rw[List.take_set_of_le (h7 _)];simp
  have c:(cells.toList.set (off+j) x).drop (off+j+1+a.length)=cells.toList.drop (off+j+(a.length+1)):=by
   rw[List.drop_set_of_lt (by omega)];congr 1;omega
  rw[b,c];simp
theorem Si{a c post b:List c9}(h:b.length=c.length):((a++c++post).take a.length++b++(a++c++post).drop (a.length+b.length))=a++b++post:=by
 rw[h];simp
theorem AM{l:List Nat}{place:Nat->Option (Nat×Nat)}(s:∀i n,l[i]?=some n->place i=some ((l.take i).sum,n)):
 ∀{f:List (Nat×AV)}{j:List (Nat×c9)}{fs:List AV}{e:List (List c9)}{cells:Array c9},j.map i6=f.map i6->(∀i:Nat,aw P w aa β H (((f[i]?).map i5).getD (.p .undef)) (((j[i]?).map i5).getD undef))->
  kZ P l f->bJ P w aa β H l fs e->cells.toList=e.flatten->
  ∃g m,gi place cells j=some g/\bJ P w aa β H l (hJ fs f) m/\g.toList=m.flatten
 |[],[],fs,e,cells,_,_,_,h,hc=>⟨cells,e,rfl,h,hc⟩
 |[],_::_,_,_,_,b,_,_,_,_=>by simp at b
 |_::_,[],_,_,_,b,_,_,_,_=>by simp at b
 |(i,a)::f,(d,v)::j,fs,e,cells,b,t,o,h,hc=>by
  simp only[h5,List.cons.injEq]at b;obtain⟨rfl,b⟩:=b;simp only[kZ]at o;obtain⟨⟨n,q,hs,B⟩,o⟩:=o;have G:aw P w aa β H a v:=by simpa using t 0
  have y:=fun k=>t (k+1);simp only[hR]at y;have L:=wP h;have K:d<l.length:=(ht.1 q).1;have C:d<fs.length:=by omega
  obtain⟨pre,c,post,e1,e2,e3,e4,e5,A⟩:=sc h (hA C);have J:c.length=n:=by rw[q]at e4;simpa using e4.symm
  have u:=xj G B;have x:v.cells.toList.length=n:=by rw[(ng u).1,hs]
  obtain⟨m,k1,k2⟩:=A a _ u (by omega);have F:cells.size=pre.length+c.length+post.length:=by
   have:=congrArg hM (hc.trans e1);simp at this;omega
  have I:v.cells.size=n:=by simpa using x
  obtain⟨nA,r⟩:∃nA,(v.cells.zipIdx.foldl (fun cs(p:c9×Nat)=>cs.setIfInBounds ((l.take d).sum+p.2) p.1) cells)=nA:=⟨_,rfl⟩
  have D:nA.toList=m.flatten:=by
   rw[<-r,k1];have:=JG v.cells.toList (l.take d).sum 0 cells (by rw[<-e2];simp at x⊢;omega);rw[<-ce];simp only[Array.toList_zipIdx];rw[this,hc,e1,ih,<-e2];exact Si (by omega)
  obtain⟨g,z,g1,g2,g3⟩:=AM s b y o k2 D;refine⟨g,z,?_,by simpa only[hJ]using g2,g3⟩;have E:¬(v.cells.size≠n\/(l.take d).sum+v.cells.size>cells.size):=by
   rw[I,F,<-e2];omega
  simp only[gi,s d n q];simp only[Bool.or_eq_true,decide_eq_true_eq,E,if_false];simp only[<-r]at g1;exact g1
end
section
variable{P:dl}{w:db}{aa ah:Nat->Prop}{β:Bd}{H:Heap}
variable{o:Oper}{ρ:da->AV}{base:Nat}
theorem Gx{α γ:Type}(f:α->Sem γ)(g:α->γ)(w:db):∀l:List α,(∀a∈l,(f a).run P w=.ok (g a) w)->(l.mapM f).run P w=.ok (l.map g) w
 |[],_=>by simp
 |a::l,h=>by
  simp only[h3,hb,h a (by simp),ha,Gx f g w l (fun b c=>h b (by simp[c])),h5];rfl
theorem RJ{α γ:Type}(f:α->Sem γ)(g:α->γ)(w:db)(a:Array α)(h:∀x∈a.toList,(f x).run P w=.ok (g x) w):(a.mapM f).run P w=.ok (a.toList.map g).toArray w:=by
 rw[b4,he,Gx f g w _ h];rfl
theorem ID{ρc:da->c9}{parts:Array (Nat×da)}(h:∀p∈parts.toList,aw P w aa β H (ρ p.2) (ρc p.2)):
 ((parts.map fun(i,x)=>(i,ρc x)).toList).map i6=(parts.toList.map fun(i,x)=>(i,ρ x)).map i6/\
 ∀i:Nat,aw P w aa β H ((((parts.toList.map fun(i,x)=>(i,ρ x))[i]?).map i5).getD (.p .undef)) ((((parts.map fun(i,x)=>(i,ρc x)).toList[i]?).map i5).getD undef):=by
 refine⟨by simp[Function.comp_def],fun i=>?_⟩;simp only[ck,hX];cases a:parts.toList[i]? with
 |none=>simp[aw,aA]
 |some p=>simpa using h p (hG a)
theorem Be{S:Nat×Nat->Prop}:∀{b:List (Nat×AV)}{fs:List AV},aQ S fs->(∀p∈b,aB S p.2)->aQ S (hJ fs b)
 |[],fs,h,_=>h
 |(i,v)::r,fs,h,a=>by
  simp only[hJ];refine Be ?_ (fun p c=>a p (by simp[c]));rw[cG]at h⊢;intro x hx;rcases hN hx with hx|rfl
  ·exact h x hx
  ·exact a (i,x) (by simp)
theorem IE{c:Array (Nat×da)}{p:Nat×da}(a:p∈c.toList):p.2∈((c.toList.map (·.2)).toArray:Array da):=by
 simp;exact⟨p.1,by simpa using a⟩
theorem VL{T u:dg}{z:PV}{l:List Nat}{c:Array (Nat×da)}(y:o.op= .build T c)(hk:kindOf P T= .agg u)(V:cJ P T=some z)(s:dH P u=some l)(hs:aL z= .agg u)
 (Q:kZ P l (c.toList.map fun(i,x)=>(i,ρ x))):bp P o ρ base {v:=gM u (hJ ((cB z).map .p) (c.toList.map fun(i,x)=>(i,ρ x)))}:=by
 obtain⟨i,ae,L,z2,z3,z4⟩:=nZ V;refine bp.same fun H w aa ah β m aj W _=>?_;have G:∀p∈c.toList,aw P w aa β H (ρ p.2) (m p.2)/\aB (aG H) (ρ p.2):=fun p g=>W p.2 (by rw[y];exact IE g);obtain⟨Y,Z⟩:=ID (ρ:=ρ) (ρc:=m) (parts:=c) (fun p g=>(G p g).1);have I:=z3 w aa;obtain⟨fs,rfl⟩:∃fs,z=.st u fs:=by cases z<;>simp[aL]at hs;subst hs;exact⟨_,rfl⟩
 simp only[aS]at I;obtain⟨X,af,q1,ab,ac⟩:=I;rw[s]at q1;cases q1
 have E:∀A:Nat->Option (Nat×Nat),(∀i n,l[i]?=some n->A i=some ((l.take i).sum,n))->
  (∀cells,gi A ae.cells (c.map fun(i,x)=>(i,m x)).toList=some cells->(dk m o).run P w=.ok (.value (.agg cells)) w)->
  ∃C,(dk m o).run P w=.ok (.value C) w/\aw P w aa β H (gM u (hJ ((cB (.st u fs)).map .p) (c.toList.map fun(i,x)=>(i,ρ x)))) C/\
   aB (aG H) (gM u (hJ ((cB (.st u fs)).map .p) (c.toList.map fun(i,x)=>(i,ρ x)))):=by
  intro A R U;obtain⟨M,N,g1,g2,g3⟩:=AM R Y Z Q (mZ.2 ab) ac;refine⟨.agg M,U _ g1,?_,Ao (Be (iM _ _) ?_)⟩
  ·rw[Wy];simp only[aw];exact⟨l,N,s,g2,by rw[<-g3]⟩
  ·intro p g;simp only[h6]at g;obtain⟨q,hq,rfl⟩:=g;exact(G q hq).2
 have k:=hk;unfold kindOf at k
 split at k
 ·rename_i a d;have aK:fx P T=some (u,a.size):=by unfold fx;rw[hk,d]
  obtain⟨ag,X,s1,s2,B,t,ad,J⟩:=tV aK;rw[d]at s1;cases s1;rw[s]at t;cases t;have S:(a.mapM fun f=>(do pure (f.offset,<-sizeOf f.type):Sem (Nat×Nat))).run P w=.ok (a.toList.map fun f:Field=>(f.offset,P.cellsOf f.type)).toArray w:=by
   refine RJ _ _ w _ (fun f hf=>?_);obtain⟨j,r,rfl⟩:=List.mem_iff_getElem.1 hf;obtain⟨D,g1,g2,g3,g4,g5⟩:=J j (by simpa using r);have:a[j]'(by simpa using r)=D:=by
    have F:a[j]?=some (a[j]'(by simpa using r)):=Array.getElem?_eq_getElem (by simpa using r);rw[g1]at F;exact(i4 F).symm
   simp only[cc,this];simp[K g4]
  refine E (fun i=>(a.toList.map fun f:Field=>(f.offset,P.cellsOf f.type)).toArray[i]?) ?_ (fun cells hc=>?_)
  ·intro i n b;have hi:i<a.size:=by rw[<-ad];exact(ht.1 b).1
   obtain⟨D,g1,g2,g3,g4,g5⟩:=J i hi;rw[b]at g3;simp only[List.getElem?_toArray,hX,cb,g1];simp[g2,i4 g3]
  ·simp only[dk,y];refine eh ?_;simp only[gj,hb,rN L z2,ha,c6 d,S,hc,hd]
 ·rename_i n e d;have O:gK P T=some (u,n):=by unfold gK;rw[hk,d]
  obtain⟨e',s1,s2,B,t⟩:=rV O;rw[d]at s1;cases s1;rw[s]at B;cases B;refine E (fun i=>some (i*P.cellsOf e,P.cellsOf e)) ?_ (fun cells hc=>?_)
  ·intro i ak b;rw[hC]at b
   split at b
   ·rename_i ai;simp at b;subst b;rw[hz,h8 (by omega),hy]
   ·simp at b
  ·simp only[dk,y];refine eh ?_;simp only[gj,hb,rN L z2,ha,c6 d,K t,hc,hd]
 ·split at k<;>simp at k
 ·simp at k
where
 K {P:dl} {w:db} {T:dg} (h:0<P.cellsOf T):(sizeOf T).run P w=.ok (P.cellsOf T) w:=by
  cases hi:P.info? T with
  |none=>simp[g0,hi]at h
  |some i=>simp[sizeOf,typeInfo,hi,g0]
theorem xa(a:Array c9)(n:Nat)(_h:0<a.size):((b0 (n*a.size)).map (a[·% a.size]!)).toList=(hv n a.toList).flatten:=by
 simp only[ck,Array.toList_range]
 induction n with
 |zero=>simp
 |succ n c=>
  rw[Nat.succ_mul,List.range_add,List.map_append,c,List.replicate_succ',hV];congr 1;simp only[List.map_map,hD,List.flatten_nil,h2];refine List.ext_getElem (by simp) (fun i b d=>?_);simp at b;simp[Nat.mul_add_mod_self_right,Nat.mod_eq_of_lt b,b,getElem!_pos]
theorem tW{z:PV}{a:List c9}(h:aS P w aa z a):∀n:Nat,Row P w aa β H a.length (hv n (.p z)) (hv n a)
 |0=>gT.2 rfl
 |n+1=>by
  rw[hU,hU,pD];exact⟨a,_,rfl,by simpa only[bm]using h,rfl,tW h n⟩
theorem xk(d:bP P w aa β H ah){b:Nat}(c:H[b]?=some .hole){cells:Array c9}{T:dg}{k:AK}{ai cap:Nat}{a:List AV}{e:List (List c9)}{rest:List c9}(g:k≠ .frozen)(n:¬c7 k a)
 (o:Row P w aa β H ai a e)(i:aQ (aG H) a)(hc:cells.toList=e.flatten++rest)(p:cells.size=cap*ai)(m:a.length<=cap)(l:k=.exact->cap=a.length)(q:k=.bytes->T=Gl.u8):
 bV P ah aa w β H aa {w with heap:=w.heap.push (.cells cells T)} (β.at b w.heap.size cap) (H.set b (.arr k 0 ai a))/\
 aw P {w with heap:=w.heap.push (.cells cells T)} aa (β.at b w.heap.size cap) (H.set b (.arr k 0 ai a)) (.sl b 0 ai 0 a.length) (.slice (some ⟨w.heap.size,0,none⟩) a.length cap):=by
 have aK:=xu (β:=β) c (.arr k 0 ai a) w.heap.size cap;have aj:∀y,aG H y->aG (H.set b (.arr k 0 ai a)) y:=lj c (fun _ h=>h.elim);have j:=(ht.1 c).1;refine⟨rP (cap:=cap) d c (ob:=.cells cells T)
  (.inr ⟨cells,T,e,rest,by simp[Bd.at],bJ.mono (fun _ x=>x) (fun k hk=>ue _ _ (d.bR k hk)) aK _ _ _ i o,hc,by simp[Bd.at,p],by simpa[Bd.at]using m,by simpa[Bd.at]using l,by
   unfold cw;rw[if_neg (by simpa using g)];simp only[Bd.at,if_true];exact⟨fun h=>h9 _ (d.bR _ h),fun h=>h9 _ (d.dS _ h)⟩,(fun h=>(g h).elim),q⟩) (aQ.mono aj _ i),?_⟩
 simp only[aw,bK,bO];refine⟨rfl,fun s r f=>?_⟩;unfold eA at f;rw[hw j]at f;cases f;exact⟨by omega,fun h=>(n h).elim,fun _=>by simp[Bd.at]⟩
theorem RN{T:dg}{n sz:Nat}{z:PV}{a:Array (Nat×da)}(C:o.op= .buildSlice T n a)(b:cL P T=some sz)(X:cJ P (dN P T)=some z)(hs:bF P (aL z)=sz)(ae:n*sz<=1000000)
 (Q:kZ P (hv n sz) (a.toList.map fun(i,x)=>(i,ρ x))):
 bp P o ρ base {v:=.sl base 0 sz 0 n,aR:=[.arr .exact 0 sz (hJ (hv n (.p z)) (a.toList.map fun(i,x)=>(i,ρ x)))]}:=by
 obtain⟨e,ag,b⟩:=jJ b;obtain⟨i,f,I,z2,z3,z4⟩:=nZ X;rw[b.pj]at I;intro H w aa ah β t R Z _ N;have B:H[base]?=some .hole:=by simpa using N 0 (by simp)
 have D:∀p∈a.toList,aw P w aa β H (ρ p.2) (t p.2)/\aB (aG H) (ρ p.2):=fun p d=>Z p.2 (by rw[C];exact IE d);obtain⟨ab,ac⟩:=ID (ρ:=ρ) (ρc:=t) (parts:=a) (fun p d=>(D p d).1);have F:=z3 w aa;have s:f.cells.size=sz:=by have:=(mW F).1;simp at this;omega
 have r:=tW (β:=β) (H:=H) F n;have Y:f.cells.toList.length=sz:=by simpa using s
 rw[Y]at r;obtain⟨y,m⟩:∃c,c=(b0 (n*sz)).map (f.cells[·% f.cells.size]!):=⟨_,rfl⟩
 have O:y.toList=(hv n f.cells.toList).flatten:=by
  rw[m,<-s];exact xa _ _ (by rw[s];exact b.pos)
 have U:bJ P w aa β H (hv n sz) (hv n (.p z)) (hv n f.cells.toList):=by
  unfold Row at r;simpa using r
 obtain⟨u,J,g1,g2,g3⟩:=AM (place:=fun i=>some (i*sz,sz)) (by
  intro i af j;rw[hC]at j
  split at j
  ·rename_i ad;simp at j;subst j;rw[hz,h8 (by omega),hy]
  ·simp at j) ab ac Q U O
 have l:(hJ (hv n (.p z)) (a.toList.map fun(i,x)=>(i,ρ x))).length=n:=by
  have:=(wP g2).2.1;simpa using this
 have E:Row P w aa β H sz (hJ (hv n (.p z)) (a.toList.map fun(i,x)=>(i,ρ x))) J:=by unfold Row;rw[l];exact g2
 have S:aQ (aG H) (hJ (hv n (.p z)) (a.toList.map fun(i,x)=>(i,ρ x))):=by
  refine Be ?_ ?_
  ·rw[cG];intro v W;rw[hQ W];simp[aB]
  ·intro p d;simp only[h6]at d;obtain⟨q,hq,rfl⟩:=d;exact(D q hq).2
 have M:u.size=n*sz:=by
  have A:=(fB E).2;rw[l,<-g3]at A;simpa using A
 have V:(dk t o).run P w=.ok (.value (.slice (some ⟨w.heap.size,0,none⟩) n n)) {w with heap:=w.heap.push (.cells u e)}:=by
  simp only[dk,C];have K:¬(n*sz>2^24):=by omega
  have L:n*sz=0->(b0 (n*sz)).map ((#[]:Array c9)[·% (#[]:Array c9).size]!)=y:=by
   intro g;rw[m,g];simp
  refine tT ?_;simp only[Instr.buildSlice,hb,c6 b.fU,ha,b.run,if_neg K]
  by_cases g:n*sz=0
  ·rw[if_pos g];simp only[hb,hd,ha,L g,g1,newRow,ee]
  ·rw[if_neg g];simp only[hb,hd,ha,rN I z2,<-m,g1,newRow,ee]
 obtain⟨q1,G⟩:=xk (T:=e) (k:=.exact) R B (by simp) (by simp[c7,AK.gr]) E S (rest:=[]) (by simpa using g3) (by rw[M]) (by omega:_<=n) (fun _=>l.symm) (fun h=>by cases h);rw[l]at G;exact⟨_,_,_,_,aa,V,.inl rfl,q1,G,by
  simp only[aB,kS];exact⟨_,hw (ht.1 B).1,h7 _⟩⟩
theorem RX{T:dg}{lo q:da}{sz:Nat}{z:PV}{l:Int}(t:o.op= .makeSlice T lo q)(a:cL P T=some sz)(X:cJ P (dN P T)=some z)(L:ρ lo= .p (.int .i64 l))(hc:ρ q= .p (.int .i64 l))
 (hs:bF P (aL z)=sz)(b:0<=l)(M:l<=cC):bp P o ρ base {v:=.sl base 0 sz 0 l.toNat,aR:=[.arr .exact 0 sz (hv l.toNat (.p z))]}:=by
 obtain⟨e,d,a⟩:=jJ a;obtain⟨i,g,D,z2,z3,z4⟩:=nZ X;rw[a.pj]at D;intro H w aa ah β Z O B _ K;have u:H[base]?=some .hole:=by simpa using K 0 (by simp)
 have r:=(B lo (by simp[t,gm])).1;have j:=(B q (by simp[t,gm])).1;rw[L]at r;rw[hc]at j;simp only[aw,aA]at r j;have A:=z3 w aa;have m:g.cells.size=sz:=by have:=(mW A).1;simp at this;omega
 obtain⟨n,rfl⟩:=Int.eq_ofNat_of_zero_le b;have y:=tW (β:=β) (H:=H) A n;have Y:g.cells.toList.length=sz:=by simpa using m
 rw[Y]at y;obtain⟨f,s⟩:∃c,c=(b0 (n*sz)).map (g.cells[·% g.cells.size]!):=⟨_,rfl⟩
 have x:f.toList=(hv n g.cells.toList).flatten:=by
  rw[s,<-m];exact xa _ _ (by rw[m];exact a.pos)
 have N:n<=1073741824:=by unfold cC at M;omega
 have E:d.bytes*n<=32768*1073741824:=ik (by have:=a.bytes;omega) N;have Q:(dk Z o).run P w=.ok (.value (.slice (some ⟨w.heap.size,0,none⟩) n n)) {w with heap:=w.heap.push (.cells f e)}:=by
  simp only[dk,t,r,j];have W:IntKind.i64.wrap (n:Int)=n:=IntWalk.i64_in _ (by omega);have R:¬((n:Int)<0):=by omega
  have S:¬((d.bytes:Int)*n>2^48):=by
   intro J;have j:d.bytes*n<=35184372088832:=E;have ab:((d.bytes*n:Nat):Int)>281474976710656:=by rw[Int.natCast_mul];exact J
   omega
  have F:n*sz=0->(b0 (n*sz)).map ((#[]:Array c9)[·% (#[]:Array c9).size]!)=f:=by
   intro b;rw[s,b];simp
  have U:(typeInfo e).run P w=.ok d w:=by simp[typeInfo,a.info]
  have G:((decide ((n:Int)<0)||decide ((d.bytes:Int)*n>2^48))||decide ((n:Int)<0)||decide ((n:Int)>n))=false:=by
   simp only[R,S,decide_false,Bool.or_false,Bool.false_or];simp
  refine tT ?_;simp only[Instr.makeSlice,hb,c6 a.fU,ha,asInt,asIntOf,hd,U,W];rw[if_neg (by simpa using G)];simp only[hb,run_askRoom,ha,a.run,Int.toNat_natCast]
  by_cases b:n*sz=0
  ·rw[if_pos b];simp only[hb,hd,ha,F b,newRow,ee]
  ·rw[if_neg b];simp only[hb,hd,ha,rN D z2,<-s,newRow,ee]
 have I:f.size=n*sz:=by
  have:=congrArg hM x;simp at this;rw[this];simp[m]
 obtain⟨q1,C⟩:=xk (T:=e) (k:=.exact) O u (cells:=f) (cap:=n) (by simp) (by simp[c7,AK.gr]) y (by
  rw[cG];intro v V;rw[hQ V];simp[aB]) (rest:=[]) (by simpa using x) I (by simp) (fun _=>by simp) (fun h=>by cases h)
 simp only[List.length_replicate]at C;exact⟨_,_,_,_,aa,Q,.inl rfl,q1,C,by
  simp only[aB,kS];exact⟨_,hw (ht.1 u).1,h7 _⟩⟩
end
section
variable{P:dl}{w:db}{aa ah:Nat->Prop}{β:Bd}{H:Heap}
variable{o:Oper}{ρ:da->AV}{base:Nat}
theorem jM{x:Option da}{d:Nat}{R:Nat->Prop}(h:ga (x.map ρ) d R):
 ∃n,R n/\((x=none/\n=d)\/∃y k,x=some y/\ρ y=.p (.int k n)):=by
 cases x with
 |none=>exact⟨d,h,.inl ⟨rfl,rfl⟩⟩
 |some y=>
  simp only[i2,ga]at h
  split at h
  ·rename_i hx;cases hx
  ·rename_i k i hx;simp at hx;obtain⟨a,h⟩:=h;refine⟨i.toNat,h,.inr ⟨y,k,rfl,?_⟩⟩;rw[hx,Int.toNat_of_nonneg a]
  ·exact h.elim
theorem rD{lo hi:Option da}{ρc:da->c9}{b:Bool}{len cap d h l:Nat}(m:d=len)(n:(hi=none/\h=d)\/∃y k,hi=some y/\ρ y= .p (.int k h))(o:(lo=none/\l=0)\/∃y k,lo=some y/\ρ y= .p (.int k l))
 (f:h<=cap)(g:l<=h)(e:∀y,(hi=some y\/lo=some y)->aw P w aa β H (ρ y) (ρc y)):(fv b len cap (lo.map ρc) (hi.map ρc) none).run P w=.ok (l,h,cap) w:=by
 subst m;rcases n with⟨rfl,rfl⟩|⟨y,k,rfl,i⟩<;>rcases o with⟨rfl,rfl⟩|⟨z,q,rfl,j⟩
 ·simp[fv]
 ·have c:=e z (.inr rfl);rw[j]at c;simp only[aw,aA]at c;simp[fv,c,gc,asIntOf,g]
 ·have a:=e y (.inl rfl);rw[i]at a;simp only[aw,aA]at a;simp[fv,a,gc,asIntOf,f]
 ·have a:=e y (.inl rfl);rw[i]at a;simp only[aw,aA]at a;have c:=e z (.inr rfl);rw[j]at c;simp only[aw,aA]at c;simp[fv,a,c,gc,asIntOf,f,g]
theorem rA{T e:dg}(b:P.underlying T=some (.slice e))(x:c9)(lo hi a:Option c9)(w:db):(gg T x lo hi a).run P w=(fK T x lo hi a).run P w:=by
 simp only[gg,hb,c6 b,ha]
theorem Se{T:dg}(b:P.underlying T=some .string)(x:c9)(lo hi a:Option c9)(w:db):(gg T x lo hi a).run P w=(fK T x lo hi a).run P w:=by
 simp only[gg,hb,c6 b,ha]
theorem om{T:dg}{x y:da}{lo hi b:Option da}(a:o.op=.slice T x lo hi b)(h:hi=some y\/lo=some y):y∈o.op.operands:=by
 rw[a];simp only[gm];rcases h with rfl|rfl<;>simp
theorem wU{T:dg}(h:ia P T=true):P.underlying T=some .string:=by
 unfold ia at h
 split at h
 ·assumption
 ·simp at h
theorem ud{ai:Nat}:∀{l:List AV},eH P ai l↔∀v∈l,ad v≠.bad/\bF P (ad v)=ai
 |[]=>by simp[eH]
 |v::l=>by simp[eH,ud (l:=l)]
theorem rR{sz ai:Nat}{a:List AV}{d:List (List c9)}(b:Row P w aa β H ai a d)(hs:eH P sz a)(g:a≠[]):ai=sz:=by
 cases a with
 |nil=>exact(g rfl).elim
 |cons v a=>
  rw[pD]at b;obtain⟨c,cs,rfl,e,f,_⟩:=b;have:=(ud.1 hs v (by simp)).2;rw[<-f,(ng e).1,this]
theorem Kj{ai:Nat}{d:List PV}{e:List (List c9)}(h:bc P w aa (hv d.length ai) d e)(off len:Nat)(f:off+len<=d.length):
 ∃a b c,e=a++b++c/\bc P w aa (hv ((d.drop off).take len).length ai) ((d.drop off).take len) b/\a.flatten.length=off*ai:=by
 have g:Row P w aa ⟨id,id⟩ [] ai (d.map .p) e:=lh.2 h;obtain⟨a,b,c,e1,e2,e3,_⟩:=jq g off len (by simpa using f);rw[Al,lh]at e2;exact⟨a,b,c,e1,e2,e3⟩
theorem VH{T:dg}{x:da}{lo hi N:Option da}(r:o.op= .slice T x lo hi N){H0:Heap}{K:aU->Prop}(h:nr P T H0 (ρ x) (lo.map ρ) (hi.map ρ) (N.map ρ) K):
 ∃e,K e/\bp P o ρ base e/\(∀p∈e.aj,H0[p.1]?=some p.2)/\e.aJ=[]:=by
 unfold nr at h;obtain⟨ap,h⟩:=h;obtain rfl:N=none:=by cases N<;>simp_all
 have J:x∈o.op.operands:=by rw[r];simp[gm]
 split at h
 ·
  rename_i s hx;obtain⟨af,h⟩:=h;have ac:=wU af;obtain⟨l,h,C⟩:=jM h;obtain⟨f,h,D⟩:=jM h;obtain⟨A,B,h⟩:=h;refine⟨_,h,bp.same fun H w aa ah β n v m _=>?_,by simp,rfl⟩;have j:=(m x J).1;rw[hx]at j;simp only[aw,aA]at j;obtain⟨bs,e1,e2⟩:=j;have ag:s.length=bs.size:=by rw[e2];simp
  have u:=rD (P:=P) (w:=w) (aa:=aa) (β:=β) (H:=H) (b:=false) (cap:=bs.size) (ρ:=ρ) (ρc:=n) ag C D (by omega) B (fun y z=>(m y (om r z)).1);refine⟨.string (bs.extract f l),?_,?_,by simp[aB]⟩
  ·simp only[dk,r,e1];refine eh ?_;rw[Se ac];simp only[fK,hb,c6 ac,ha,i0,Option.isSome_none];simp[u]
  ·simp only[aw,aA];refine⟨_,rfl,?_⟩;rw[e2,<-h4,<-List.map_drop,Go.Lib.extract_data,hK]
 ·
  rename_i hx;obtain⟨g,h⟩:=h;obtain⟨sz,g⟩:=iz.1 g;obtain⟨e,X,g⟩:=jJ g;obtain⟨l,h,C⟩:=jM h;obtain⟨f,h,D⟩:=jM h;obtain⟨A,B,F⟩:=h;obtain rfl:l=0:=by omega
  obtain rfl:f=0:=by omega
  refine⟨_,F,bp.same fun H w aa ah β n v m _=>?_,by simp,rfl⟩;have j:=(m x J).1;rw[hx]at j;simp only[aw,aA]at j;have u:=rD (P:=P) (w:=w) (aa:=aa) (β:=β) (H:=H) (b:=true) (cap:=0) (ρ:=ρ) (ρc:=n) (len:=0) (d:=0) rfl C D (by omega) B (fun y z=>(m y (om r z)).1);refine⟨.slice none 0 0,?_,by rw[hx];simp[aw,aA],by rw[hx];simp[aB]⟩;simp only[dk,r,j];refine eh ?_;rw[rA g.fU];simp only[fK,hb,c6 g.fU,ha,i0,u,g.run];simp
 ·
  rename_i full q hx;obtain⟨l,h,C⟩:=jM h;obtain⟨f,h,D⟩:=jM h;obtain⟨A,B,h⟩:=h
  split at h
  case h_2=>exact h.elim
  rename_i sz g;obtain⟨U,h⟩:=h;obtain⟨e,X,g⟩:=jJ g;refine⟨_,h,bp.same fun H w aa ah β n v m _=>?_,by simp,rfl⟩;have j:=(m x J).1;rw[hx]at j;simp only[aw,aA]at j;obtain⟨ak,off,cap,ai,Y,v1,v2,v3,v4,v5,sp,V,v6⟩:=j;have W:cap≠f->sp=none:=fun h=>V.resolve_right (by omega);have u:=rD (P:=P) (w:=w) (aa:=aa) (β:=β) (H:=H) (b:=true) (cap:=cap) (ρ:=ρ) (ρc:=n) rfl C D (by omega) B (fun y z=>(m y (om r z)).1);refine⟨.slice (some (if cap=f then⟨ak,off,sp⟩else⟨ak,off+f*sz,none⟩)) (l-f) (cap-f),?_,?_,by simp[aB]⟩
  ·simp only[dk,r,v6];refine eh ?_;rw[rA g.fU];simp only[fK,hb,c6 g.fU,ha,i0,u,g.run]
   by_cases hc:cap=f
   ·simp[hc]
   ·obtain rfl:=W hc;simp[hc,jO]
  ·have I:((q.take l).drop f).length=l-f:=by simp;omega
   simp only[aw,aA,I]
   by_cases E:q=[]
   ·subst E;simp at A;subst A;obtain rfl:f=0:=by omega
    by_cases hc:cap=0
    ·exact⟨ak,off,cap,sz,[],by simp[bc],by simp,by intro i hi;simp at hi,fun _=>by simpa using hc,by simp,sp,.inr hc,by simp[hc]⟩
    ·exact⟨ak,off,cap,sz,[],by simp[bc],by simp,by intro i hi;simp at hi,fun hf=>by simp at hf;simpa using v4 hf,by simp,none,.inl rfl,by simp[hc]⟩
   ·have Q:ai=sz:=rR (w:=w) (aa:=aa) (β:=β) (H:=H) (lh.2 v1) U (by simpa using E);subst Q;obtain⟨a,b,c,e1,e2,e3⟩:=Kj v1 f (l-f) (by omega);rw[<-hK]at e2;have ao:(q.drop f).take (l-f)=(q.take l).drop f:=by rw[hK]
    rw[I]at e2
    by_cases hc:cap=f
    ·obtain rfl:l=f:=by omega
     have O:b=[]:=by
      have:=(tU e2).2.2;simpa using this
     subst O;refine⟨ak,off,cap-l,ai,[],by simpa using e2,fun _=>v2 E,by intro i hi;simp at hi,?_,by omega,sp,.inr (by omega),by simp[hc]⟩;intro _;omega
    ·refine⟨ak,off+f*ai,cap-f,ai,b,e2,fun _=>v2 E,?_,?_,by omega,none,.inl rfl,by simp[hc]⟩
     ·have:=rG v3 (pre:=a.flatten) (xs:=b.flatten) (post:=c.flatten) (by rw[e1];simp);rw[e3]at this;exact this
     ·intro hf;simp at hf;have:=v4 hf.1;omega
 ·
  rename_i q hx;obtain⟨l,h,C⟩:=jM h;obtain⟨f,h,D⟩:=jM h;obtain⟨A,B,h⟩:=h
  split at h
  case h_2=>exact h.elim
  rename_i sz g;obtain⟨U,h⟩:=h;obtain⟨e,X,g⟩:=jJ g;refine⟨_,h,bp.same fun H w aa ah β n v m _=>?_,by simp,rfl⟩;have j:=(m x J).1;rw[hx]at j;simp only[aw,aA]at j;rcases j with⟨rfl,j⟩|⟨ak,off,cap,ai,Y,v1,v2,v3,v5,sp,V,v6⟩
  ·simp at A;subst A;obtain rfl:f=0:=by omega
   have u:=rD (P:=P) (w:=w) (aa:=aa) (β:=β) (H:=H) (b:=true) (cap:=0) (ρ:=ρ) (ρc:=n) (len:=0) (d:=0) rfl C D (by omega) B (fun y z=>(m y (om r z)).1);refine⟨.slice none 0 0,?_,by simp[aw,aA],by simp[aB]⟩;simp only[dk,r,j];refine eh ?_;rw[rA g.fU];simp only[fK,hb,c6 g.fU,ha,i0,u,g.run];simp
  have W:cap≠f->sp=none:=fun h=>V.resolve_right (by omega);have u:=rD (P:=P) (w:=w) (aa:=aa) (β:=β) (H:=H) (b:=true) (cap:=cap) (ρ:=ρ) (ρc:=n) rfl C D (by omega) B (fun y z=>(m y (om r z)).1);refine⟨.slice (some (if cap=f then⟨ak,off,sp⟩else⟨ak,off+f*sz,none⟩)) (l-f) (cap-f),?_,?_,by simp[aB]⟩
  ·simp only[dk,r,v6];refine eh ?_;rw[rA g.fU];simp only[fK,hb,c6 g.fU,ha,i0,u,g.run]
   by_cases hc:cap=f
   ·simp[hc]
   ·obtain rfl:=W hc;simp[hc,jO]
  ·have I:((q.take l).drop f).length=l-f:=by simp;omega
   simp only[aw,aA,I];right
   by_cases E:q=[]
   ·subst E;simp at A;subst A;obtain rfl:f=0:=by omega
    by_cases hc:cap=0
    ·exact⟨ak,off,cap,sz,[],by simp[bc],by simp,by intro i hi;simp at hi,by simp,sp,.inr hc,by simp[hc]⟩
    ·exact⟨ak,off,cap,sz,[],by simp[bc],by simp,by intro i hi;simp at hi,by simp,none,.inl rfl,by simp[hc]⟩
   ·have Q:ai=sz:=rR (w:=w) (aa:=aa) (β:=β) (H:=H) (lh.2 v1) U (by simpa using E);subst Q;obtain⟨a,b,c,e1,e2,e3⟩:=Kj v1 f (l-f) (by omega);rw[<-hK]at e2;rw[I]at e2
    by_cases hc:cap=f
    ·obtain rfl:l=f:=by omega
     have O:b=[]:=by
      have:=(tU e2).2.2;simpa using this
     subst O;exact⟨ak,off,cap-l,ai,[],by simpa using e2,fun _=>v2 E,by intro i hi;simp at hi,by omega,sp,.inr (by omega),by simp[hc]⟩
    ·refine⟨ak,off+f*ai,cap-f,ai,b,e2,fun _=>v2 E,?_,by omega,none,.inl rfl,by simp[hc]⟩;have:=rG v3 (pre:=a.flatten) (xs:=b.flatten) (post:=c.flatten) (by rw[e1];simp);rw[e3]at this;exact this
 ·
  rename_i b ar ai off len hx
  split at h
  case h_2=>exact h.elim
  rename_i k aq an q S;obtain⟨rfl,rfl,g,M,hlen,h⟩:=h;obtain⟨l,h,C⟩:=jM h;obtain⟨f,h,D⟩:=jM h;obtain⟨A,B,F⟩:=h;obtain⟨e,X,g⟩:=jJ g
  have key:∀(H:Heap)(w:db)(aa ah:Nat->Prop)(β:Bd)(n:da->c9),bP P w aa β H ah->(∀x∈o.op.operands,aw P w aa β H (ρ x) (n x)/\aB (aG H) (ρ x))->
   H[b]?=some (.arr k ar ai q)->q.length<=β.cap b/\(dk n o).run P w=.ok (.value (.slice (some (if β.cap b-off=f then⟨β.ak b,off*ai,none⟩else⟨β.ak b,off*ai+f*ai,none⟩)) (l-f) (β.cap b-off-f))) w:=by
   intro H w aa ah β n v m t;have j:=(m x J).1;rw[hx]at j;simp only[aw,bK,bO]at j;obtain⟨_,_,j⟩:=j.2 k q t;have j:=j M;rcases v.cE b _ t with hold|⟨cs,am,Y,rest,k1,k2,k3,k4,k5,k6⟩
   ·exact(M hold).elim
   have u:=rD (P:=P) (w:=w) (aa:=aa) (β:=β) (H:=H) (b:=true) (cap:=β.cap b-off) (ρ:=ρ) (ρc:=n) rfl C D (by omega) B (fun y z=>(m y (om r z)).1);refine⟨k5,?_⟩;simp only[dk,r,j];refine eh ?_;rw[rA g.fU];simp only[fK,hb,c6 g.fU,ha,i0,u,g.run]
   by_cases hc:β.cap b-off=f
   ·simp[hc]
   ·simp[hc,jO]
  split at F
  ·rename_i Z;subst Z;refine⟨_,F,bp.same fun H w aa ah β n v m aj=>?_,by simpa using S,rfl⟩;have t:H[b]?=some (.arr k ar ai q):=by simpa using aj
   obtain⟨ad,L⟩:=key H w aa ah β n v m t;refine⟨_,L,?_,?_⟩
   ·simp only[aw,bK,bO];refine⟨by simp[hm],fun al ae G=>?_⟩;unfold eA at G;rw[t]at G;cases G;exact⟨by omega,fun R=>(M R).elim,fun _=>by simp⟩
   ·simp only[aB];exact⟨_,t,h7 _⟩
  ·rename_i Z
   split at F
   ·rename_i ab;subst ab;refine⟨_,F,bp.same fun H w aa ah β n v m aj=>?_,by simpa using S,rfl⟩;have t:H[b]?=some (.arr k ar ai q):=by simpa using aj
    obtain⟨ad,L⟩:=key H w aa ah β n v m t;refine⟨_,L,?_,by simp[aB]⟩;simp only[aw,aA]
    by_cases hc:β.cap b-off=f
    ·exact⟨β.ak b,off*ai,β.cap b-off-f,ai,[],by simp[bc],by simp,by intro i hi;simp at hi,by simp,by simp,by simp[hc]⟩
    ·exact⟨β.ak b,off*ai+f*ai,β.cap b-off-f,ai,[],by simp[bc],by simp,by intro i hi;simp at hi,by simp,by simp,by simp[hc]⟩
   ·rename_i ab;refine⟨_,F,bp.same fun H w aa ah β n v m aj=>?_,by simpa using S,rfl⟩;have t:H[b]?=some (.arr k ar ai q):=by simpa using aj
    obtain⟨ad,L⟩:=key H w aa ah β n v m t;refine⟨_,L,?_,?_⟩
    ·simp only[aw,bK,bO];refine⟨by simp[hm],fun al ae G=>?_⟩;unfold eA at G;rw[t]at G;cases G;refine⟨by omega,fun R=>(M R).elim,fun _=>?_⟩;have hc:¬(β.cap b-off=f):=by omega
     rw[if_neg hc,ix,Nat.sub_sub]
    ·simp only[aB];exact⟨_,t,h7 _⟩
 ·exact h.elim
theorem Ux{T:dg}{x:da}{lo hi:Option da}{d:da}(g:o.op= .slice T x lo hi (some d)){H0:Heap}{K:aU->Prop}(h:pH P T H0 (ρ x) (lo.map ρ) (hi.map ρ) (ρ d) K):
 ∃e,K e/\bp P o ρ base e/\(∀p∈e.aj,H0[p.1]?=some p.2)/\e.aJ=[]:=by
 unfold pH at h;have S:x∈o.op.operands:=by rw[g];simp[gm]
 split at h
 case h_2=>exact h.elim
 rename_i b ar ai off len hx
 split at h
 case h_2=>exact h.elim
 rename_i k ag ac es V;obtain⟨rfl,rfl,c,E,hlen,X,h⟩:=h;obtain⟨i,h,Q⟩:=jM h;obtain⟨I,h,R⟩:=jM h;have J:ga ((some d).map ρ) 0 (fun m=>off+m<=es.length/\i<=m/\I<=i/\K {v:=.p .undef,aj:=[(b,.arr k ar ai es)]}):=h;obtain⟨B,h,U⟩:=jM J;obtain⟨ad,C,L,M⟩:=h;obtain⟨sz,c⟩:=iz.1 c;obtain⟨e,af,c⟩:=jJ c;refine⟨_,M,bp.same fun H w aa ah β f W n aj=>?_,by simpa using V,rfl⟩;have F:H[b]?=some (.arr k ar ai es):=by simpa using aj
 have a:=(n x S).1;rw[hx]at a;simp only[aw,bK,bO]at a;obtain⟨_,_,a⟩:=a.2 k es F;have a:=a E;rcases W.cE b _ F with hold|⟨cs,Z,ab,rest,k1,k2,k3,k4,k5,k6⟩
 ·exact(E hold).elim
 have s:∃q,ρ d=.p (.int q B):=by
  rcases U with⟨h,_⟩|⟨y,q,A,a⟩
  ·cases h
  ·cases A;exact⟨q,a⟩
 obtain⟨q,s⟩:=s;have j:=(n d (by rw[g];simp[gm])).1;rw[s]at j;simp only[aw,aA]at j;have O:∃y G,hi=some y/\ρ y=.p (.int G i):=by
  rcases Q with⟨rfl,_⟩|h
  ·simp at X
  ·exact h
 obtain⟨y,G,rfl,A⟩:=O;have l:=(n y (om g (.inl rfl))).1;rw[A]at l;simp only[aw,aA]at l;have N:(fv true len (β.cap b-off) (lo.map f) (some (f y)) (some (f d))).run P w=.ok (I,i,B) w:=by
  have D:(B:Int)<=((β.cap b-off:Nat):Int):=by omega
  rcases R with⟨rfl,rfl⟩|⟨z,ae,rfl,Y⟩
  ·simp[fv,j,l,gc,asIntOf,D,C]
  ·have u:=(n z (om g (.inr rfl))).1;rw[Y]at u;simp only[aw,aA]at u;simp[fv,j,l,u,gc,asIntOf,D,C,L]
 have t:∃r,(gg T (f x) (lo.map f) (some (f y)) (some (f d))).run P w=.ok r w:=by
  rw[rA c.fU,a];simp only[fK,hb,c6 c.fU,ha,N,c.run];exact⟨_,rfl⟩
 obtain⟨r,t⟩:=t;refine⟨r,?_,by simp only[aw,aA],by simp[aB]⟩;simp only[dk,g,i2];exact eh t
end
section
variable{P:dl}{w:db}{aa ah:Nat->Prop}{β:Bd}{H:Heap}
variable{o:Oper}{ρ:da->AV}{base:Nat}
theorem oV{H0 H:Heap}{a:AV}{c:List AV}(h:gw H0 a=some c)(aj:∀p∈dy H0 a,H[p.1]?=some p.2):gw H a=some c:=by
 cases a with
 |sl b ar ai off len=>
  simp only[gw]at h⊢;simp only[dy]at aj
  split at h
  case h_2=>simp at h
  rename_i k g f e d;rw[d]at aj;have:=aj _ (hW.2 rfl);simp only at this;rw[this];exact h
 |p v=>cases v<;>exact h
 |_=>simp[gw]at h
theorem mO{H0:Heap}{a:AV}:∀p∈dy H0 a,H0[p.1]?=some p.2:=by
 intro p b;unfold dy at b
 split at b
 all_goals first
  |(split at b
    ·rename_i o c;simp at b;subst b;exact c
    ·simp at b)
  |simp at b
theorem tR{sz m:Nat}{ak off n c:Nat}{w:db}{xs:List c9}(e:xs.length=m*sz)(hc:gz w ak off xs):(e6 sz m (.slice (some ⟨ak,off,none⟩) n c)).run P w=.ok xs.toArray w:=by
 refine ej w sz m _ n c xs e ?_;intro j v a;rw[jO];obtain⟨b,d⟩:=ht.1 a;rw[hc j b,d]
theorem Af{sz n c:Nat}{a:Addr}{w:db}:(e6 sz 0 (.slice (some a) n c)).run P w=.ok #[] w:=
 ej w sz 0 a n c [] (by simp) (fun j v b=>by simp at b)
theorem uH{sz:Nat}{a:AV}{u:List AV}{v:c9}(g:gw H a=some u)(I:bP P w aa β H ah)(i:aw P w aa β H a v)(S:aB (aG H) a)(hs:eH P sz u):
 ∃d,Row P w aa β H sz u d/\aQ (aG H) u/\e9 v=pure u.length/\
  ∀w':db,w'.heap=w.heap->∀m,m<=u.length->(e6 sz m v).run P w'=.ok (d.take m).flatten.toArray w':=by
 have G:∀{f:List AV}{d:List (List c9)}(m:Nat),Row P w aa β H sz f d->m<=f.length->(d.take m).flatten.length=m*sz:=by
  intro f d m h j;obtain⟨x,y,z,e1,e2,e3,e4,e5⟩:=jq h 0 m (by omega);have hx:x=[]:=by have:=(fB e4).1;simpa using this
  have O:y.length=m:=by have:=(fB e2).1;simp at this;omega
  subst hx;have K:d.take m=y:=by rw[e1];simp[O]
  rw[K];have:=(fB e2).2;rw[this];simp[j]
 have cells:∀{ak off:Nat}{d:List (List c9)}(w':db),w'.heap=w.heap->gz w ak off d.flatten->∀m,gz w' ak off (d.take m).flatten:=by
  intro ak off d w' q hc m;have J:gz w' ak off d.flatten:=hc.same (by rw[q]);have:=rG J (pre:=[]) (xs:=(d.take m).flatten) (post:=(d.drop m).flatten) (by
   rw[List.nil_append,<-hV,List.take_append_drop])
  simpa using this
 cases a with
 |p t=>
  cases t with
  |aF=>
   simp[gw]at g;subst g;simp only[aw,aA]at i;subst i;exact⟨[],gT.2 rfl,by simp[aQ],rfl,fun w' _ m j=>by simp[e6]⟩
  |bI full f=>
   simp[gw]at g;subst g;simp only[aw,aA]at i;obtain⟨ak,off,cap,ai,d,v1,v2,v3,v4,v5,sp,E,rfl⟩:=i;rcases E with rfl|rfl
   case inr=>
    obtain rfl:f=[]:=hB.1 (by omega);exact⟨[],gT.2 rfl,by simp[aQ],rfl,fun w' _ m j=>by
     obtain rfl:m=0:=by simpa using j
     exact Af⟩
   have h:Row P w aa β H ai (f.map .p) d:=lh.2 v1;have o:Row P w aa β H sz (f.map .p) d:=by
    by_cases n:f.map AV.p=[]
    ·rw[n]at h⊢;rw[gT]at h⊢;exact h
    ·rw[<-rR h hs n];exact h
   refine⟨d,o,iM _ _,by simp[e9],fun w' q m j=>?_⟩;exact tR (G m o j) (cells w' q v3 m)
  |seq f=>
   simp[gw]at g;subst g;simp only[aw,aA]at i;rcases i with⟨rfl,rfl⟩|⟨ak,off,cap,ai,d,v1,v2,v3,v5,sp,E,rfl⟩
   ·exact⟨[],gT.2 rfl,by simp[aQ],rfl,fun w' _ m j=>by simp[e6]⟩
   rcases E with rfl|rfl
   case inr=>
    obtain rfl:f=[]:=hB.1 (by omega);exact⟨[],gT.2 rfl,by simp[aQ],rfl,fun w' _ m j=>by
     obtain rfl:m=0:=by simpa using j
     exact Af⟩
   have h:Row P w aa β H ai (f.map .p) d:=lh.2 v1;have o:Row P w aa β H sz (f.map .p) d:=by
    by_cases n:f.map AV.p=[]
    ·rw[n]at h⊢;rw[gT]at h⊢;exact h
    ·rw[<-rR h hs n];exact h
   refine⟨d,o,iM _ _,by simp[e9],fun w' q m j=>?_⟩;exact tR (G m o j) (cells w' q v3 m)
  |str s=>
   simp[gw]at g;subst g;simp only[aw,aA]at i;obtain⟨bs,rfl,rfl⟩:=i;have N:sz=1\/bs.data.toList=[]:=by
    cases B:bs.data.toList with
    |nil=>exact .inr rfl
    |cons a r=>
     rw[B]at hs;simp[eH,ad,aL,bF]at hs;exact .inl hs.1.symm
   have h:Row P w aa β H sz ((bs.data.toList.map (·.toNat)).map fun c=>.p (.int .u8 (c:Nat))) (bs.data.toList.map fun c=>[hn .u8 c.toNat]):=by
    rcases N with rfl|B
    ·generalize bs.data.toList=l
     induction l with
     |nil=>exact gT.2 rfl
     |cons a r F=>exact pD.2 ⟨_,_,rfl,by simp[bm,aS],rfl,F⟩
    ·rw[B];exact gT.2 rfl
   refine⟨_,h,by rw[cG];intro v i;simp at i;obtain⟨a,_,rfl⟩:=i;simp[aB],by simp[e9],fun w' _ m _=>?_⟩;have e:((bs.data.toList.map fun c=>[hn .u8 c.toNat]).take m).flatten=(bs.data.toList.take m).map fun c=>hn .u8 c.toNat:=by
    rw[<-h4];generalize bs.data.toList.take m=l
    induction l with
    |nil=>rfl
    |cons a r F=>simp[F]
   rw[e];simp only[e6,hd];congr 1;apply b2;simp[ByteArray.data_extract]
  |_=>simp[gw]at g
 |sl b ar ai off len=>
  simp only[gw]at g
  split at g
  case h_2=>simp at g
  rename_i k T R f D
  split at g
  case isFalse=>simp at g
  rename_i hc;obtain⟨rfl,rfl,C⟩:=hc;simp at g;subst g;simp only[aw,bK,bO]at i;obtain⟨_,v2,v3⟩:=i.2 k f D;have M:((f.drop off).take len).length=len:=by simp;omega
  by_cases A:c7 k f
  ·rw[v2 A];have L:=A.2;subst L;simp at C;obtain⟨rfl,rfl⟩:=C;exact⟨[],gT.2 (by simp),by simp[aQ],rfl,fun w' _ m j=>by simp[e6]⟩
  ·rw[v3 A];rcases I.cE b _ D with hold|⟨cs,Q,d,rest,k1,k2,k3,k4,k5,k6⟩
   ·exact(A hold).elim
   obtain⟨x,y,z,e1,e2,e3,e4,e5⟩:=jq k2 off len C;have o:Row P w aa β H sz ((f.drop off).take len) y:=by
    by_cases n:(f.drop off).take len=[]
    ·rw[n]at e2⊢;rw[gT]at e2⊢;exact e2
    ·rw[<-rR e2 hs n];exact e2
   refine⟨y,o,?_,by rw[M];rfl,fun w' q m j=>?_⟩
   ·rw[cG];intro v i;exact cG.1 (I.refs b _ D) v (hT (hS i))
   ·refine tR (G m o j) (cells w' q ?_ m);rw[<-e3];exact kW k1 (post:=z.flatten++rest) (by rw[k3,e1];simp)
 |_=>simp[gw]at g
theorem Ug{T X e:dg}{i:dq}{f:c9}{sz:Nat}(a:pB P T sz e i)(b:gJ P X=true)(y:i.zero=some f)(A:dg){p:Option Addr}{sLen sCap n:Nat}{j h:Array c9}(x:c9)
 (hx:e9 x=pure n)(s:(e6 sz sLen (.slice p sLen sCap)).run P w.drew=.ok j w.drew)(aR:(e6 sz n x).run P w.drew=.ok h w.drew)(q:sCap<sLen+n)(g:sLen+n<=cC):
 ∃cap,sLen+n<=cap/\(e7 #[T,X] A #[.slice p sLen sCap,x]).run P w=
  .ok (.slice (some ⟨w.heap.size,0,none⟩) (sLen+n) cap) {w.drew with heap:=w.heap.push (.cells (j++h++fb f.cells (cap-(sLen+n))) e)}:=by
 refine⟨grownCap w (sLen+n) sCap e,by simp[grownCap,Question.cut],?_⟩;have o:∃d,P.underlying X=some d/\∀k,d≠.int k:=by
  unfold gJ at b
  split at b
  ·simp at b
  ·rename_i d c v;exact⟨_,v,c⟩
  ·simp at b
 obtain⟨d,c,B⟩:=o;have r:¬(sLen+n<=sCap):=by omega
 have m:¬(9223372036854775807<((sLen:Int)+(n:Int))):=by unfold cC at g;omega
 have C:fl (sLen+n) sCap*i.bytes<=281474976710656:=by
  refine growslice_fits q ?_;have:=ik g (Nat.le_of_lt a.bytes);unfold cC at this;omega
 have l:¬(281474976710656<fl (sLen+n) sCap*i.bytes):=by omega
 have t:(sizeOf e).run P w=.ok sz w:=a.run w;have u:∀w:db,(typeInfo e).run P w=.ok i w:=fun w=>by simp[typeInfo,a.info]
 have z:∀w:db,(zeroValue e).run P w=.ok f w:=fun w=>by simp[zeroValue,typeInfo,a.info,y]
 simp[e7,c6 a.fU,c6 c,t,u,z,hx,r,m,l,Question.forced,s,aR,newRow,grownCap,Array.append_assoc];rfl
theorem G6{T X e:dg}{i:dq}{sz:Nat}(j:pB P T sz e i)(c:gJ P X=true)(t:dg){g off:Nat}{sLen sCap n:Nat}{b:Array c9}{h:dg}{a:List c9}(x:c9)
 (hx:e9 x=pure n)(o:w.heap[g]?=some (.cells b h (0,0)))(aR:(e6 sz n x).run P w=.ok a.toArray w)(l:∀u∈a,u.oneCell'=true)(q:sLen+n<=sCap)(p:off+sLen*sz+a.length<=b.size):
 (e7 #[T,X] t #[.slice (some ⟨g,off,none⟩) sLen sCap,x]).run P w=
  .ok (.slice (some ⟨g,off,none⟩) (sLen+n) sCap) (w.setRow g (b.toList.take (off+sLen*sz)++a++b.toList.drop (off+sLen*sz+a.length)).toArray):=by
 have m:∃d,P.underlying X=some d/\∀k,d≠.int k:=by
  unfold gJ at c
  split at c
  ·simp at c
  ·rename_i d f s;exact⟨_,s,f⟩
  ·simp at c
 obtain⟨d,f,v⟩:=m;have aK:=em P g (off+sLen*sz) h a 0 b w o (by simpa using p) l;simp only[ih]at aK;have r:(sizeOf e).run P w=.ok sz w:=j.run w;simp[e7,c6 j.fU,c6 f,r,hx,q,aR,jO,aK]
theorem S8{T X e:dg}{i:dq}{sz:Nat}(f:pB P T sz e i)(b:gJ P X=true)(m:dg){p:Option Addr}{sLen sCap:Nat}(x:c9)
 (hx:e9 x=pure 0)(aR:(e6 sz 0 x).run P w=.ok #[] w)(g:sLen<=sCap):
 (e7 #[T,X] m #[.slice p sLen sCap,x]).run P w=.ok (.slice p sLen sCap) w:=by
 have j:∃d,P.underlying X=some d/\∀k,d≠.int k:=by
  unfold gJ at b
  split at b
  ·simp at b
  ·rename_i d c l;exact⟨_,l,c⟩
  ·simp at b
 obtain⟨d,c,n⟩:=j;have h:(sizeOf e).run P w=.ok sz w:=f.run w;cases p with
 |none=>simp[e7,c6 f.fU,c6 c,h,hx,g,aR]
 |some a=>simp[e7,c6 f.fU,c6 c,h,hx,g,aR,storeCells]
theorem bV.drew{aE:Nat->Prop}{w1 w':db}{aH:Bd}{H':Heap}(a:w1.heap=w.heap)(b:w1.os=w.os/\w1.output=w.output)(h:bV P ah aa w1 β H aE w' aH H'):bV P ah aa w β H aE w' aH H':=
 ⟨h.bR,h.fresh,⟨by rw[<-a];exact h.ext.size,fun k hk=>by rw[<-a];exact h.ext.same k hk,h.ext.io.1.trans b.1,h.ext.io.2.trans b.2⟩,h.step,h.rel,h.eL,h.loop⟩
theorem G7(z:Array c9)(n:Nat):(fb z n).size=n*z.size:=by simp[fb]
theorem uN{ai:Nat}:∀{b:List AV}{a:List (List c9)},Row P w aa β H ai b a->∀c∈a.flatten,c.oneCell'=true
 |[],a,h=>by rw[gT]at h;subst h;simp
 |v::b,a,h=>by
  rw[pD]at h;obtain⟨c,cs,rfl,d,_,e⟩:=h;intro x hx;simp only[hD,hF]at hx;exact hx.elim (xY d x) (uN e x)
theorem Row.mono{w':db}{aE:Nat->Prop}{aH:Bd}{H':Heap}(hI:∀k,aa k->aE k)(hs:∀k,aa k->w'.heap[k]?=w.heap[k]?)(aK:ch β H aH H'){ai:Nat}{a:List AV}{b:List (List c9)}(c:aQ (aG H) a)
 (h:Row P w aa β H ai a b):Row P w' aE aH H' ai a b:=bJ.mono hI hs aK _ _ _ c h
theorem wV{c:Call}{s x:da}(e:o.op= .call c)(hc:c.callee= .builtin .append)(b:c.args.toList=[s,x]){a:da->c9}{w w':db}{v:c9}
 (h:(e7 c.argTypes o.type #[a s,a x]).run P w=.ok v w'):(dk a o).run P w=.ok (.value v) w':=by
 have d:c.args=#[s,x]:=by apply b2;simpa using b
 simp only[dk,e,resolve,hc,d];simp[invoke,builtin,h]
theorem UJ{c:Call}{s x:da}(e:o.op= .call c)(hc:c.callee= .builtin .copy)(b:c.args.toList=[s,x]){a:da->c9}{w w':db}{v:c9}
 (h:(fm c.argTypes o.type #[a s,a x]).run P w=.ok v w'):(dk a o).run P w=.ok (.value v) w':=by
 have d:c.args=#[s,x]:=by apply b2;simpa using b
 simp only[dk,e,resolve,hc,d];simp[invoke,builtin,h]
end
end Go.al
