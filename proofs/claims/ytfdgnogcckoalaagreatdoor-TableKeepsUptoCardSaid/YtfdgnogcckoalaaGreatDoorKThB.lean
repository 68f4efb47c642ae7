import Derived.Test.YtfdgnogcckoalaaGreatDoorKThA
import Derived.Lib.Strings
import Derived.Laws.Append
import Derived.Laws.StructEq
import Derived.Laws.Concat
import Derived.ChangeKeysEq
import Derived.MapKept
import Derived.Laws.RangeString
import Derived.Lib.UnsafeStr
import Derived.Laws.BytesArg
import Derived.Orders
/- Parts of a proof. -/
set_option linter.unusedSimpArgs false
set_option linter.unusedVariables false
set_option linter.unusedSectionVars false
open Array renaming getElem?_eq_some_iff->b1, getElem?_eq_getElem->b2, ext'->b3, getElem?_toList->b4, length_toList->b5, replicate->cb, toList_push->cc, getD_eq_getD_getElem?->ce, getElem?_push->cr, getD->cv
open BitVec renaming ofInt->cx
open Bool renaming and_eq_true->cy, or_eq_true->c6, false_eq_true->c7
open Go renaming run_underlying->c8, Operand->c9, TypeId->da, Program->db, Value->dg, execOp->dk, FuncId->dl, World->dp, MapEntry->dq, BinOp->dz, setRow_other->ea, run_storeCells_at->eb, setRow_heap->ec, IntKind->ed, TypeInfo->ee, ResultVar->ei, Frame->ej, Field->en, Deferred->eo, step_leave_returned->eq, run_firstCells_some->ew, mem_ready->e6, TypeDesc->e7, getD_set_ne->e8, Steps->e9
open Go.Builtin renaming firstCells->fb, append_->fd, lenOf->fl, zeroCells->fm, clear_->fv, copy_->gb, unsafeString_->gc, nextslicecap->ge, min2->gg, max2->gi, unsafeSliceData_->gj, min_->gl, max_->gm, cap_->gp
open Go.ByteArray renaming toList_eq->gt
open Go.Call renaming operands->gx
open Go.Instr renaming findNow->gy, sliceBounds->gA, findAsking->gN, checkKey->gP, slice->g0, findKey->g7, mapUpdate->g8, sliceBound->g9, lookup->ha, sliceAt->hb, sameNow->hd, next->he
open Go.MapKept renaming run_getObj_map->hg, bytes_beq->hh
open Go.Op renaming operands->hj, equalIn->hm, equal->hn, bytesLess->ho, eqFields->hp, eqItems->ht, stringOp->hv
open Go.Region renaming ready->hw, wanted->hz, binds->hA, schedule->hB
open Go.Region.linearise renaming go->hC
open Go.Result renaming andThen_ok->hD, andThen->hE
open Go.Sem renaming run_bind->hF, run_pure->hG, run->hH
open Go.Steps renaming one->hJ, trans->hK, refl->hL
open Go.Utf8 renaming decode->hM
open Go.Value renaming oneCell'->hN, int->hO
open Go.World renaming freeze->hP, cell?->hQ
open List renaming getElem?_eq_some_iff->hR, getElem?_set_self->hS, length_append->hT, replicate->hU, map_cons->hV, append_nil->hW, mem_cons->hX, getElem?_eq_getElem->hZ, mem_of_mem_take->h0, mem_cons_of_mem->h2, getElem?_set_ne->h3, length_eq_zero_iff->h4, map_append->h5, mem_of_mem_drop->h6, map_nil->h7, all_eq_true->h8, size_toArray->h9, append_assoc->ih, contains_iff_mem->ii, any_eq_true->ik, flatten_append->ip, mem_singleton->ix, getElem?_append_left->iz, map_toArray->i0, take_of_length_le->i4, range->i5, map_map->i6, nil_append->i7, mem_append->i8, getElem?_eq_none->i9, drop_take->jp, replicate_succ->js, map_congr_left->j1, length_pos_iff->j2, getElem?_map->j3, length->j4, drop_zero->j5, map->j6, take_succ_cons->j7, mem_map_of_mem->j8, countP_congr->j9, countP_cons->kb, length_map->kc, sum_cons->kd, map_take->kg, mem_map->kh, map_id->kk
open Nat renaming le_refl->km, lt_irrefl->ko, lt_trichotomy->kp, add_zero->kv, zero_add->kw, le_add_right->kA, add_mul->kC, zero_le->kN, strongRecOn->kP, zero_mul->kW, succ_mul->la, ne_of_lt->lb, le_total->lc
open Ne renaming symm->le
open Option renaming isSome_iff_exists->li, map_none->lk, getD_some->ll, map_some->lm
open Option.some renaming injEq->lq, inj->ls
open PUnit renaming unit->lt
open Prod.mk renaming injEq->lu
open UInt8 renaming toNat_ofNat'->lv, toNat_inj->lw, ofNat->lz
namespace Go.an
set_option linter.unusedSectionVars false
variable[Gl]
section
variable{P:db}{w:dp}{ad ai:Nat->Prop}{β:Bd}{H:Heap}
variable{o:Oper}{ρ:c9->AV}{base:Nat}
theorem lC{x:Option c9}{d:Nat}{R:Nat->Prop}(h:ir (x.map ρ) d R):
 ∃n,R n/\((x=none/\n=d)\/∃y k,x=some y/\ρ y=.p (.int k n)):=by
 cases x with
 |none=>exact⟨d,h,.inl ⟨rfl,rfl⟩⟩
 |some y=>
  simp only[lm,ir]at h
  split at h
  ·rename_i hx;cases hx
  ·rename_i k i hx;simp at hx;obtain⟨a,h⟩:=h;refine⟨i.toNat,h,.inr ⟨y,k,rfl,?_⟩⟩;rw[hx,Int.toNat_of_nonneg a]
  ·exact h.elim
theorem uy{lo hi:Option c9}{ρc:c9->dg}{b:Bool}{len cap d h l:Nat}(m:d=len)(n:(hi=none/\h=d)\/∃y k,hi=some y/\ρ y= .p (.int k h))(hl:(lo=none/\l=0)\/∃y k,lo=some y/\ρ y= .p (.int k l))
 (f:h<=cap)(g:l<=h)(e:∀y,(hi=some y\/lo=some y)->aA P w ad β H (ρ y) (ρc y)):(gA b len cap (lo.map ρc) (hi.map ρc) none).run P w=.ok (l,h,cap) w:=by
 subst m;rcases n with⟨rfl,rfl⟩|⟨y,k,rfl,i⟩<;>rcases hl with⟨rfl,rfl⟩|⟨z,o,rfl,j⟩
 ·simp[gA]
 ·have c:=e z (.inr rfl);rw[j]at c;simp only[aA,aC]at c;simp[gA,c,g9,asIntOf,g]
 ·have a:=e y (.inl rfl);rw[i]at a;simp only[aA,aC]at a;simp[gA,a,g9,asIntOf,f]
 ·have a:=e y (.inl rfl);rw[i]at a;simp only[aA,aC]at a;have c:=e z (.inr rfl);rw[j]at c;simp only[aA,aC]at c;simp[gA,a,c,g9,asIntOf,f,g]
theorem uv{T e:da}(b:P.underlying T=some (.slice e))(x:dg)(lo hi a:Option dg)(w:dp):(hb T x lo hi a).run P w=(g0 T x lo hi a).run P w:=by
 simp only[hb,hF,c8 b,hD]
theorem X6{T:da}(b:P.underlying T=some .string)(x:dg)(lo hi a:Option dg)(w:dp):(hb T x lo hi a).run P w=(g0 T x lo hi a).run P w:=by
 simp only[hb,hF,c8 b,hD]
theorem qx{T:da}{x y:c9}{lo hi b:Option c9}(a:o.op=.slice T x lo hi b)(h:hi=some y\/lo=some y):y∈o.op.operands:=by
 rw[a];simp only[hj];rcases h with rfl|rfl<;>simp
theorem Ab{T:da}(h:je P T=true):P.underlying T=some .string:=by
 unfold je at h
 split at h
 ·assumption
 ·simp at h
theorem xw{ak:Nat}:∀{l:List AV},fh P ak l↔∀v∈l,aa v≠.bad/\bO P (aa v)=ak
 |[]=>by simp[fh]
 |v::l=>by simp[fh,xw (l:=l)]
theorem uO{sz ak:Nat}{a:List AV}{d:List (List dg)}(b:Row P w ad β H ak a d)(hs:fh P sz a)(g:a≠[]):ak=sz:=by
 cases a with
 |nil=>exact(g rfl).elim
 |cons v a=>
  rw[su]at b;obtain⟨c,cs,rfl,e,f,_⟩:=b;have:=(xw.1 hs v s_).2;rw[<-f,(o7 e).1,this]
theorem Pu{ak:Nat}{d:List PV}{e:List (List dg)}(h:bm P w ad (hU d.length ak) d e)(off len:Nat)(hl:off+len<=d.length):
 ∃a b c,e=a++b++c/\bm P w ad (hU ((d.drop off).take len).length ak) ((d.drop off).take len) b/\a.flatten.length=off*ak:=by
 have f:Row P w ad ⟨id,id⟩ [] ak (d.map .p) e:=mR.2 h;obtain⟨a,b,c,e1,e2,e3,_⟩:=kF f off len (by simpa using hl);rw[DM,mR]at e2;exact⟨a,b,c,e1,e2,e3⟩
theorem avA{T:da}{x:c9}{lo hi M:Option c9}(r:o.op= .slice T x lo hi M){H0:Heap}{K:aZ->Prop}(h:ph P T H0 (ρ x) (lo.map ρ) (hi.map ρ) (M.map ρ) K):
 ∃e,K e/\bA P o ρ base e/\(∀p∈e.al,H0[p.1]?=some p.2)/\e.aM=[]:=by
 unfold ph at h;obtain⟨an,h⟩:=h;obtain rfl:M=none:=by cases M<;>simp_all
 have I:x∈o.op.operands:=by rw[r];simp[hj]
 split at h
 ·
  rename_i s hx;obtain⟨ae,h⟩:=h;have aa:=Ab ae;obtain⟨l,h,C⟩:=lC h;obtain⟨f,h,D⟩:=lC h;obtain⟨A,B,h⟩:=h;refine⟨_,h,bA.same fun H w ad ai β n v m _=>?_,s_,rfl⟩;have j:=(m x I).1;rw[hx]at j;simp only[aA,aC]at j;obtain⟨bs,e1,e2⟩:=j;have af:s.length=bs.size:=by rw[e2];simp
  have u:=uy (P:=P) (w:=w) (ad:=ad) (β:=β) (H:=H) (b:=false) (cap:=bs.size) (ρ:=ρ) (ρc:=n) af C D o_ B (fun y z=>(m y (qx r z)).1);refine⟨.string (bs.extract f l),?_,?_,by simp[aE]⟩
  ·simp only[dk,r,e1];refine eX ?_;rw[X6 aa];simp only[g0,hF,c8 aa,hD,lk,Option.isSome_none];simp[u]
  ·simp only[aA,aC];refine⟨_,rfl,?_⟩;rw[e2,<-kg,<-List.map_drop,Go.Lib.extract_data,jp]
 ·
  rename_i hx;obtain⟨g,h⟩:=h;obtain⟨sz,g⟩:=li.1 g;obtain⟨e,W,g⟩:=ly g;obtain⟨l,h,C⟩:=lC h;obtain⟨f,h,D⟩:=lC h;obtain⟨A,B,F⟩:=h;obtain rfl:l=0:=o_
  obtain rfl:f=0:=o_
  refine⟨_,F,bA.same fun H w ad ai β n v m _=>?_,s_,rfl⟩;have j:=(m x I).1;rw[hx]at j;simp only[aA,aC]at j;have u:=uy (P:=P) (w:=w) (ad:=ad) (β:=β) (H:=H) (b:=true) (cap:=0) (ρ:=ρ) (ρc:=n) (len:=0) (d:=0) rfl C D o_ B (fun y z=>(m y (qx r z)).1);refine⟨.slice none 0 0,?_,by rw[hx];simp[aA,aC],by rw[hx];simp[aE]⟩;simp only[dk,r,j];refine eX ?_;rw[uv g.ig];simp only[g0,hF,c8 g.ig,hD,lk,u,g.run];simp
 ·
  rename_i full q hx;obtain⟨l,h,C⟩:=lC h;obtain⟨f,h,D⟩:=lC h;obtain⟨A,B,h⟩:=h
  split at h
  case h_2=>exact h.elim
  rename_i sz g;obtain⟨S,h⟩:=h;obtain⟨e,W,g⟩:=ly g;refine⟨_,h,bA.same fun H w ad ai β n v m _=>?_,s_,rfl⟩;have j:=(m x I).1;rw[hx]at j;simp only[aA,aC]at j;obtain⟨aq,off,cap,ak,X,v1,v2,v3,v4,v5,sp,U,v6⟩:=j;have V:cap≠f->sp=none:=fun h=>U.resolve_right o_;have u:=uy (P:=P) (w:=w) (ad:=ad) (β:=β) (H:=H) (b:=true) (cap:=cap) (ρ:=ρ) (ρc:=n) rfl C D o_ B (fun y z=>(m y (qx r z)).1);refine⟨.slice (some (if cap=f then⟨aq,off,sp⟩else⟨aq,off+f*sz,none⟩)) (l-f) (cap-f),?_,?_,by simp[aE]⟩
  ·simp only[dk,r,v6];refine eX ?_;rw[uv g.ig];simp only[g0,hF,c8 g.ig,hD,lk,u,g.run]
   by_cases hc:cap=f
   ·simp[hc]
   ·obtain rfl:=V hc;simp[hc,lE]
  ·have G:((q.take l).drop f).length=l-f:=by simp;omega
   simp only[aA,aC,G]
   by_cases E:q=[]
   ·subst E;simp at A;subst A;obtain rfl:f=0:=by omega
    by_cases hc:cap=0
    ·exact⟨aq,off,cap,sz,[],by simp[bm],s_,by intro i hi;simp at hi,fun _=>by simpa using hc,s_,sp,.inr hc,by simp[hc]⟩
    ·exact⟨aq,off,cap,sz,[],by simp[bm],s_,by intro i hi;simp at hi,fun hf=>by simp at hf;simpa using v4 hf,s_,none,.inl rfl,by simp[hc]⟩
   ·have O:ak=sz:=uO (w:=w) (ad:=ad) (β:=β) (H:=H) (mR.2 v1) S (by simpa using E);subst O;obtain⟨a,b,c,e1,e2,e3⟩:=Pu v1 f (l-f) o_;rw[<-jp]at e2;have am:(q.drop f).take (l-f)=(q.take l).drop f:=by rw[jp]
    rw[G]at e2
    by_cases hc:cap=f
    ·obtain rfl:l=f:=by omega
     have N:b=[]:=by
      have:=(xk e2).2.2;simpa using this
     subst N;refine⟨aq,off,cap-l,ak,[],by simpa using e2,fun _=>v2 E,by intro i hi;simp at hi,?_,o_,sp,.inr o_,by simp[hc]⟩;intro _;omega
    ·refine⟨aq,off+f*ak,cap-f,ak,b,e2,fun _=>v2 E,?_,?_,o_,none,.inl rfl,by simp[hc]⟩
     ·have:=uC v3 (pre:=a.flatten) (xs:=b.flatten) (post:=c.flatten) (by rw[e1];simp);rw[e3]at this;exact this
     ·intro hf;simp at hf;have:=v4 hf.1;omega
 ·
  rename_i q hx;obtain⟨l,h,C⟩:=lC h;obtain⟨f,h,D⟩:=lC h;obtain⟨A,B,h⟩:=h
  split at h
  case h_2=>exact h.elim
  rename_i sz g;obtain⟨S,h⟩:=h;obtain⟨e,W,g⟩:=ly g;refine⟨_,h,bA.same fun H w ad ai β n v m _=>?_,s_,rfl⟩;have j:=(m x I).1;rw[hx]at j;simp only[aA,aC]at j;rcases j with⟨rfl,j⟩|⟨aq,off,cap,ak,X,v1,v2,v3,v5,sp,U,v6⟩
  ·simp at A;subst A;obtain rfl:f=0:=by omega
   have u:=uy (P:=P) (w:=w) (ad:=ad) (β:=β) (H:=H) (b:=true) (cap:=0) (ρ:=ρ) (ρc:=n) (len:=0) (d:=0) rfl C D o_ B (fun y z=>(m y (qx r z)).1);refine⟨.slice none 0 0,?_,by simp[aA,aC],by simp[aE]⟩;simp only[dk,r,j];refine eX ?_;rw[uv g.ig];simp only[g0,hF,c8 g.ig,hD,lk,u,g.run];simp
  have V:cap≠f->sp=none:=fun h=>U.resolve_right o_;have u:=uy (P:=P) (w:=w) (ad:=ad) (β:=β) (H:=H) (b:=true) (cap:=cap) (ρ:=ρ) (ρc:=n) rfl C D o_ B (fun y z=>(m y (qx r z)).1);refine⟨.slice (some (if cap=f then⟨aq,off,sp⟩else⟨aq,off+f*sz,none⟩)) (l-f) (cap-f),?_,?_,by simp[aE]⟩
  ·simp only[dk,r,v6];refine eX ?_;rw[uv g.ig];simp only[g0,hF,c8 g.ig,hD,lk,u,g.run]
   by_cases hc:cap=f
   ·simp[hc]
   ·obtain rfl:=V hc;simp[hc,lE]
  ·have G:((q.take l).drop f).length=l-f:=by simp;omega
   simp only[aA,aC,G];right
   by_cases E:q=[]
   ·subst E;simp at A;subst A;obtain rfl:f=0:=by omega
    by_cases hc:cap=0
    ·exact⟨aq,off,cap,sz,[],by simp[bm],s_,by intro i hi;simp at hi,s_,sp,.inr hc,by simp[hc]⟩
    ·exact⟨aq,off,cap,sz,[],by simp[bm],s_,by intro i hi;simp at hi,s_,none,.inl rfl,by simp[hc]⟩
   ·have O:ak=sz:=uO (w:=w) (ad:=ad) (β:=β) (H:=H) (mR.2 v1) S (by simpa using E);subst O;obtain⟨a,b,c,e1,e2,e3⟩:=Pu v1 f (l-f) o_;rw[<-jp]at e2;rw[G]at e2
    by_cases hc:cap=f
    ·obtain rfl:l=f:=by omega
     have N:b=[]:=by
      have:=(xk e2).2.2;simpa using this
     subst N;exact⟨aq,off,cap-l,ak,[],by simpa using e2,fun _=>v2 E,by intro i hi;simp at hi,o_,sp,.inr o_,by simp[hc]⟩
    ·refine⟨aq,off+f*ak,cap-f,ak,b,e2,fun _=>v2 E,?_,o_,none,.inl rfl,by simp[hc]⟩;have:=uC v3 (pre:=a.flatten) (xs:=b.flatten) (post:=c.flatten) (by rw[e1];simp);rw[e3]at this;exact this
 ·
  rename_i b ar ak off len hx
  split at h
  case h_2=>exact h.elim
  rename_i k ao aj q R;obtain⟨rfl,rfl,g,L,hlen,h⟩:=h;obtain⟨l,h,C⟩:=lC h;obtain⟨f,h,D⟩:=lC h;obtain⟨A,B,F⟩:=h;obtain⟨e,W,g⟩:=ly g
  have key:∀(H:Heap)(w:dp)(ad ai:Nat->Prop)(β:Bd)(n:c9->dg),cm P w ad β H ai->(∀x∈o.op.operands,aA P w ad β H (ρ x) (n x)/\aE (aL H) (ρ x))->
   H[b]?=some (.arr k ar ak q)->q.length<=β.cap b/\(dk n o).run P w=.ok (.value (.slice (some (if β.cap b-off=f then⟨β.aq b,off*ak,none⟩else⟨β.aq b,off*ak+f*ak,none⟩)) (l-f) (β.cap b-off-f))) w:=by
   intro H w ad ai β n v m t;have j:=(m x I).1;rw[hx]at j;simp only[aA,bY,b7]at j;obtain⟨_,_,j⟩:=j.2 k q t;have j:=j L;rcases v.cX b _ t with hold|⟨cs,ah,X,rest,k1,k2,k3,k4,k5,k6⟩
   ·exact(L hold).elim
   have u:=uy (P:=P) (w:=w) (ad:=ad) (β:=β) (H:=H) (b:=true) (cap:=β.cap b-off) (ρ:=ρ) (ρc:=n) rfl C D o_ B (fun y z=>(m y (qx r z)).1);refine⟨k5,?_⟩;simp only[dk,r,j];refine eX ?_;rw[uv g.ig];simp only[g0,hF,c8 g.ig,hD,lk,u,g.run]
   by_cases hc:β.cap b-off=f
   ·simp[hc]
   ·simp[hc,lE]
  split at F
  ·rename_i Y;subst Y;refine⟨_,F,bA.same fun H w ad ai β n v m al=>?_,by simpa using R,rfl⟩;have t:H[b]?=some (.arr k ar ak q):=by simpa using al
   obtain⟨ab,J⟩:=key H w ad ai β n v m t;refine⟨_,J,?_,?_⟩
   ·simp only[aA,bY,b7];refine⟨by simp[hN],fun ag ac hl=>?_⟩;unfold fp at hl;rw[t]at hl;cases hl;exact⟨o_,fun Q=>(L Q).elim,fun _=>by simp⟩
   ·simp only[aE];exact⟨_,t,km _⟩
  ·rename_i Y
   split at F
   ·rename_i Z;subst Z;refine⟨_,F,bA.same fun H w ad ai β n v m al=>?_,by simpa using R,rfl⟩;have t:H[b]?=some (.arr k ar ak q):=by simpa using al
    obtain⟨ab,J⟩:=key H w ad ai β n v m t;refine⟨_,J,?_,by simp[aE]⟩;simp only[aA,aC]
    by_cases hc:β.cap b-off=f
    ·exact⟨β.aq b,off*ak,β.cap b-off-f,ak,[],by simp[bm],s_,by intro i hi;simp at hi,s_,s_,by simp[hc]⟩
    ·exact⟨β.aq b,off*ak+f*ak,β.cap b-off-f,ak,[],by simp[bm],s_,by intro i hi;simp at hi,s_,s_,by simp[hc]⟩
   ·rename_i Z;refine⟨_,F,bA.same fun H w ad ai β n v m al=>?_,by simpa using R,rfl⟩;have t:H[b]?=some (.arr k ar ak q):=by simpa using al
    obtain⟨ab,J⟩:=key H w ad ai β n v m t;refine⟨_,J,?_,?_⟩
    ·simp only[aA,bY,b7];refine⟨by simp[hN],fun ag ac hl=>?_⟩;unfold fp at hl;rw[t]at hl;cases hl;refine⟨o_,fun Q=>(L Q).elim,fun _=>?_⟩;have hc:¬(β.cap b-off=f):=by omega
     rw[if_neg hc,kC,Nat.sub_sub]
    ·simp only[aE];exact⟨_,t,km _⟩
 ·exact h.elim
theorem asM{T:da}{x:c9}{lo hi:Option c9}{d:c9}(g:o.op= .slice T x lo hi (some d)){H0:Heap}{K:aZ->Prop}(h:sy P T H0 (ρ x) (lo.map ρ) (hi.map ρ) (ρ d) K):
 ∃e,K e/\bA P o ρ base e/\(∀p∈e.al,H0[p.1]?=some p.2)/\e.aM=[]:=by
 unfold sy at h;have S:x∈o.op.operands:=by rw[g];simp[hj]
 split at h
 case h_2=>exact h.elim
 rename_i b ar ak off len hx
 split at h
 case h_2=>exact h.elim
 rename_i k ag ab es V;obtain⟨rfl,rfl,c,E,hlen,X,h⟩:=h;obtain⟨i,h,Q⟩:=lC h;obtain⟨I,h,R⟩:=lC h;have J:ir ((some d).map ρ) 0 (fun m=>off+m<=es.length/\i<=m/\I<=i/\K {v:=.p .undef,al:=[(b,.arr k ar ak es)]}):=h;obtain⟨B,h,U⟩:=lC J;obtain⟨ac,C,L,M⟩:=h;obtain⟨sz,c⟩:=li.1 c;obtain⟨e,af,c⟩:=ly c;refine⟨_,M,bA.same fun H w ad ai β f W n al=>?_,by simpa using V,rfl⟩;have F:H[b]?=some (.arr k ar ak es):=by simpa using al
 have a:=(n x S).1;rw[hx]at a;simp only[aA,bY,b7]at a;obtain⟨_,_,a⟩:=a.2 k es F;have a:=a E;rcases W.cX b _ F with hold|⟨cs,Z,aa,rest,k1,k2,k3,k4,k5,k6⟩
 ·exact(E hold).elim
 have s:∃q,ρ d=.p (.int q B):=by
  rcases U with⟨h,_⟩|⟨y,q,A,a⟩
  ·cases h
  ·cases A;exact⟨q,a⟩
 obtain⟨q,s⟩:=s;have j:=(n d (by rw[g];simp[hj])).1;rw[s]at j;simp only[aA,aC]at j;have O:∃y G,hi=some y/\ρ y=.p (.int G i):=by
  rcases Q with⟨rfl,_⟩|h
  ·simp at X
  ·exact h
 obtain⟨y,G,rfl,A⟩:=O;have l:=(n y (qx g (.inl rfl))).1;rw[A]at l;simp only[aA,aC]at l;have N:(gA true len (β.cap b-off) (lo.map f) (some (f y)) (some (f d))).run P w=.ok (I,i,B) w:=by
  have D:(B:Int)<=((β.cap b-off:Nat):Int):=o_
  rcases R with⟨rfl,rfl⟩|⟨z,ae,rfl,Y⟩
  ·simp[gA,j,l,g9,asIntOf,D,C]
  ·have u:=(n z (qx g (.inr rfl))).1;rw[Y]at u;simp only[aA,aC]at u;simp[gA,j,l,u,g9,asIntOf,D,C,L]
 have t:∃r,(hb T (f x) (lo.map f) (some (f y)) (some (f d))).run P w=.ok r w:=by
  rw[uv c.ig,a];simp only[g0,hF,c8 c.ig,hD,N,c.run];exact⟨_,rfl⟩
 obtain⟨r,t⟩:=t;refine⟨r,?_,by simp only[aA,aC],by simp[aE]⟩;simp only[dk,g,lm];exact eX t
end
section
variable{P:db}{w:dp}{ad ai:Nat->Prop}{β:Bd}{H:Heap}
variable{o:Oper}{ρ:c9->AV}{base:Nat}
theorem rk{H0 H:Heap}{a:AV}{c:List AV}(h:iD H0 a=some c)(al:∀p∈dR H0 a,H[p.1]?=some p.2):iD H a=some c:=by
 cases a with
 |sl b ar ak off len=>
  simp only[iD]at h⊢;simp only[dR]at al
  split at h
  case h_2=>simp at h
  rename_i k g f e d;rw[d]at al;have:=al _ (ix.2 rfl);simp only at this;rw[this];exact h
 |p v=>cases v<;>exact h
 |_=>simp[iD]at h
theorem oN{H0:Heap}{a:AV}:∀p∈dR H0 a,H0[p.1]?=some p.2:=by
 intro p b;unfold dR at b
 split at b
 all_goals first
  |(split at b
    ·rename_i o c;simp at b;subst b;exact c
    ·simp at b)
  |simp at b
theorem xe{sz m:Nat}{aq off n c:Nat}{w:dp}{xs:List dg}(hl:xs.length=m*sz)(hc:iE w aq off xs):(fb sz m (.slice (some ⟨aq,off,none⟩) n c)).run P w=.ok xs.toArray w:=by
 refine ew w sz m _ n c xs hl ?_;intro j v a;rw[lE];obtain⟨b,d⟩:=hR.1 a;rw[hc j b,d]
theorem DG{sz n c:Nat}{a:Addr}{w:dp}:(fb sz 0 (.slice (some a) n c)).run P w=.ok #[] w:=
 ew w sz 0 a n c [] s_ (fun j v b=>by simp at b)
theorem xS{sz:Nat}{a:AV}{u:List AV}{v:dg}(g:iD H a=some u)(G:cm P w ad β H ai)(i:aA P w ad β H a v)(R:aE (aL H) a)(hs:fh P sz u):
 ∃d,Row P w ad β H sz u d/\aV (aL H) u/\fl v=pure u.length/\
  ∀w':dp,w'.heap=w.heap->∀m,m<=u.length->(fb sz m v).run P w'=.ok (d.take m).flatten.toArray w':=by
 have F:∀{f:List AV}{d:List (List dg)}(m:Nat),Row P w ad β H sz f d->m<=f.length->(d.take m).flatten.length=m*sz:=by
  intro f d m h j;obtain⟨x,y,z,e1,e2,e3,e4,e5⟩:=kF h 0 m o_;have hx:x=[]:=by have:=(gu e4).1;simpa using this
  have N:y.length=m:=by have:=(gu e2).1;simp at this;omega
  subst hx;have J:d.take m=y:=by rw[e1];simp[N]
  rw[J];have:=(gu e2).2;rw[this];simp[j]
 have cells:∀{aq off:Nat}{d:List (List dg)}(w':dp),w'.heap=w.heap->iE w aq off d.flatten->∀m,iE w' aq off (d.take m).flatten:=by
  intro aq off d w' q hc m;have I:iE w' aq off d.flatten:=hc.same (by rw[q]);have:=uC I (pre:=[]) (xs:=(d.take m).flatten) (post:=(d.drop m).flatten) (by
   rw[i7,<-ip,List.take_append_drop])
  simpa using this
 cases a with
 |p t=>
  cases t with
  |aH=>
   simp[iD]at g;subst g;simp only[aA,aC]at i;subst i;exact⟨[],iW.2 rfl,by simp[aV],rfl,fun w' _ m j=>by simp[fb]⟩
  |bF full f=>
   simp[iD]at g;subst g;simp only[aA,aC]at i;obtain⟨aq,off,cap,ak,d,v1,v2,v3,v4,v5,sp,D,rfl⟩:=i;rcases D with rfl|rfl
   case inr=>
    obtain rfl:f=[]:=h4.1 o_;exact⟨[],iW.2 rfl,by simp[aV],rfl,fun w' _ m j=>by
     obtain rfl:m=0:=by simpa using j
     exact DG⟩
   have h:Row P w ad β H ak (f.map .p) d:=mR.2 v1;have o:Row P w ad β H sz (f.map .p) d:=by
    by_cases n:f.map AV.p=[]
    ·rw[n]at h⊢;rw[iW]at h⊢;exact h
    ·rw[<-uO h hs n];exact h
   refine⟨d,o,jz _ _,by simp[fl],fun w' q m j=>?_⟩;exact xe (F m o j) (cells w' q v3 m)
  |seq f=>
   simp[iD]at g;subst g;simp only[aA,aC]at i;rcases i with⟨rfl,rfl⟩|⟨aq,off,cap,ak,d,v1,v2,v3,v5,sp,D,rfl⟩
   ·exact⟨[],iW.2 rfl,by simp[aV],rfl,fun w' _ m j=>by simp[fb]⟩
   rcases D with rfl|rfl
   case inr=>
    obtain rfl:f=[]:=h4.1 o_;exact⟨[],iW.2 rfl,by simp[aV],rfl,fun w' _ m j=>by
     obtain rfl:m=0:=by simpa using j
     exact DG⟩
   have h:Row P w ad β H ak (f.map .p) d:=mR.2 v1;have o:Row P w ad β H sz (f.map .p) d:=by
    by_cases n:f.map AV.p=[]
    ·rw[n]at h⊢;rw[iW]at h⊢;exact h
    ·rw[<-uO h hs n];exact h
   refine⟨d,o,jz _ _,by simp[fl],fun w' q m j=>?_⟩;exact xe (F m o j) (cells w' q v3 m)
  |str s=>
   simp[iD]at g;subst g;simp only[aA,aC]at i;obtain⟨bs,rfl,rfl⟩:=i;have M:sz=1\/bs.data.toList=[]:=by
    cases B:bs.data.toList with
    |nil=>exact .inr rfl
    |cons a r=>
     rw[B]at hs;simp[fh,aa,aP,bO]at hs;exact .inl hs.1.symm
   have h:Row P w ad β H sz ((bs.data.toList.map (·.toNat)).map fun c=>.p (.int .u8 (c:Nat))) (bs.data.toList.map fun c=>[hO .u8 c.toNat]):=by
    rcases M with rfl|B
    ·generalize bs.data.toList=l
     induction l with
     |nil=>exact iW.2 rfl
     |cons a r E=>exact su.2 ⟨_,_,rfl,by simp[bw,aY],rfl,E⟩
    ·rw[B];exact iW.2 rfl
   refine⟨_,h,by rw[cB];intro v i;simp at i;obtain⟨a,_,rfl⟩:=i;simp[aE],by simp[fl],fun w' _ m _=>?_⟩;have e:((bs.data.toList.map fun c=>[hO .u8 c.toNat]).take m).flatten=(bs.data.toList.take m).map fun c=>hO .u8 c.toNat:=by
    rw[<-kg];generalize bs.data.toList.take m=l
    induction l with
    |nil=>rfl
    |cons a r E=>simp[E]
   rw[e];simp only[fb,hG];congr 1;apply b3;simp[ByteArray.data_extract]
  |_=>simp[iD]at g
 |sl b ar ak off len=>
  simp only[iD]at g
  split at g
  case h_2=>simp at g
  rename_i k S Q f C
  split at g
  case isFalse=>simp at g
  rename_i hc;obtain⟨rfl,rfl,hl⟩:=hc;simp at g;subst g;simp only[aA,bY,b7]at i;obtain⟨_,v2,v3⟩:=i.2 k f C;have L:((f.drop off).take len).length=len:=by simp;omega
  by_cases A:dA k f
  ·rw[v2 A];have K:=A.2;subst K;simp at hl;obtain⟨rfl,rfl⟩:=hl;exact⟨[],iW.2 s_,by simp[aV],rfl,fun w' _ m j=>by simp[fb]⟩
  ·rw[v3 A];rcases G.cX b _ C with hold|⟨cs,O,d,rest,k1,k2,k3,k4,k5,k6⟩
   ·exact(A hold).elim
   obtain⟨x,y,z,e1,e2,e3,e4,e5⟩:=kF k2 off len hl;have o:Row P w ad β H sz ((f.drop off).take len) y:=by
    by_cases n:(f.drop off).take len=[]
    ·rw[n]at e2⊢;rw[iW]at e2⊢;exact e2
    ·rw[<-uO e2 hs n];exact e2
   refine⟨y,o,?_,by rw[L];rfl,fun w' q m j=>?_⟩
   ·rw[cB];intro v i;exact cB.1 (G.refs b _ C) v (h6 (h0 i))
   ·refine xe (F m o j) (cells w' q ?_ m);rw[<-e3];exact mL k1 (post:=z.flatten++rest) (by rw[k3,e1];simp)
 |_=>simp[iD]at g
theorem Z0{T X e:da}{i:ee}{f:dg}{sz:Nat}(a:so P T sz e i)(b:iu P X=true)(y:i.zero=some f)(A:da){p:Option Addr}{sLen sCap n:Nat}{j h:Array dg}(x:dg)
 (hx:fl x=pure n)(s:(fb sz sLen (.slice p sLen sCap)).run P w.drew=.ok j w.drew)(aX:(fb sz n x).run P w.drew=.ok h w.drew)(q:sCap<sLen+n)(g:sLen+n<=cJ):
 ∃cap,sLen+n<=cap/\(fd #[T,X] A #[.slice p sLen sCap,x]).run P w=
  .ok (.slice (some ⟨w.heap.size,0,none⟩) (sLen+n) cap) {w.drew with heap:=w.heap.push (.cells (j++h++fm f.cells (cap-(sLen+n))) e)}:=by
 refine⟨grownCap w (sLen+n) sCap e,by simp[grownCap,Question.cut],?_⟩;have o:∃d,P.underlying X=some d/\∀k,d≠.int k:=by
  unfold iu at b
  split at b
  ·simp at b
  ·rename_i d c v;exact⟨_,v,c⟩
  ·simp at b
 obtain⟨d,c,B⟩:=o;have r:¬(sLen+n<=sCap):=o_
 have m:¬(9223372036854775807<((sLen:Int)+(n:Int))):=by unfold cJ at g;omega
 have C:ge (sLen+n) sCap*i.bytes<=281474976710656:=by
  refine growslice_fits q ?_;have:=Nat.mul_le_mul g (Nat.le_of_lt a.bytes);unfold cJ at this;omega
 have l:¬(281474976710656<ge (sLen+n) sCap*i.bytes):=o_
 have t:(sizeOf e).run P w=.ok sz w:=a.run w;have u:∀w:dp,(typeInfo e).run P w=.ok i w:=fun w=>by simp[typeInfo,a.info]
 have z:∀w:dp,(zeroValue e).run P w=.ok f w:=fun w=>by simp[zeroValue,typeInfo,a.info,y]
 simp[fd,c8 a.ig,c8 c,t,u,z,hx,r,m,l,Question.forced,s,aX,newRow,grownCap,Array.append_assoc];rfl
theorem Mc{T X e:da}{i:ee}{sz:Nat}(j:so P T sz e i)(c:iu P X=true)(t:da){g off:Nat}{sLen sCap n:Nat}{b:Array dg}{h:da}{a:List dg}(x:dg)
 (hx:fl x=pure n)(o:w.heap[g]?=some (.cells b h (0,0)))(aX:(fb sz n x).run P w=.ok a.toArray w)(l:∀u∈a,u.oneCell'=true)(q:sLen+n<=sCap)(p:off+sLen*sz+a.length<=b.size):
 (fd #[T,X] t #[.slice (some ⟨g,off,none⟩) sLen sCap,x]).run P w=
  .ok (.slice (some ⟨g,off,none⟩) (sLen+n) sCap) (w.setRow g (b.toList.take (off+sLen*sz)++a++b.toList.drop (off+sLen*sz+a.length)).toArray):=by
 have m:∃d,P.underlying X=some d/\∀k,d≠.int k:=by
  unfold iu at c
  split at c
  ·simp at c
  ·rename_i d f s;exact⟨_,s,f⟩
  ·simp at c
 obtain⟨d,f,v⟩:=m;have aN:=eb P g (off+sLen*sz) h a 0 b w o (by simpa using p) l;simp only[kv]at aN;have r:(sizeOf e).run P w=.ok sz w:=j.run w;simp[fd,c8 j.ig,c8 f,r,hx,q,aX,lE,aN]
theorem YY{T X e:da}{i:ee}{sz:Nat}(f:so P T sz e i)(b:iu P X=true)(m:da){p:Option Addr}{sLen sCap:Nat}(x:dg)
 (hx:fl x=pure 0)(aX:(fb sz 0 x).run P w=.ok #[] w)(g:sLen<=sCap):
 (fd #[T,X] m #[.slice p sLen sCap,x]).run P w=.ok (.slice p sLen sCap) w:=by
 have j:∃d,P.underlying X=some d/\∀k,d≠.int k:=by
  unfold iu at b
  split at b
  ·simp at b
  ·rename_i d c l;exact⟨_,l,c⟩
  ·simp at b
 obtain⟨d,c,n⟩:=j;have h:(sizeOf e).run P w=.ok sz w:=f.run w;cases p with
 |none=>simp[fd,c8 f.ig,c8 c,h,hx,g,aX]
 |some a=>simp[fd,c8 f.ig,c8 c,h,hx,g,aX,storeCells]
theorem cj.drew{aF:Nat->Prop}{w1 w':dp}{aO:Bd}{H':Heap}(a:w1.heap=w.heap)(b:w1.os=w.os/\w1.output=w.output)(h:cj P ai ad w1 β H aF w' aO H'):cj P ai ad w β H aF w' aO H':=
 ⟨h.cd,h.fresh,⟨by rw[<-a];exact h.ext.size,fun k hk=>by rw[<-a];exact h.ext.same k hk,h.ext.io.1.trans b.1,h.ext.io.2.trans b.2⟩,h.step,h.rel,h.gh,h.loop⟩
theorem Md(z:Array dg)(n:Nat):(fm z n).size=n*z.size:=by simp[fm]
theorem xZ{ak:Nat}:∀{b:List AV}{a:List (List dg)},Row P w ad β H ak b a->∀c∈a.flatten,c.oneCell'=true
 |[],a,h=>by rw[iW]at h;subst h;simp
 |v::b,a,h=>by
  rw[su]at h;obtain⟨c,cs,rfl,d,_,e⟩:=h;intro x hx;simp only[List.flatten_cons,i8]at hx;exact hx.elim (A9 d x) (xZ e x)
theorem Row.mono{w':dp}{aF:Nat->Prop}{aO:Bd}{H':Heap}(hI:∀k,ad k->aF k)(hs:∀k,ad k->w'.heap[k]?=w.heap[k]?)(aN:cM β H aO H'){ak:Nat}{a:List AV}{b:List (List dg)}(c:aV (aL H) a)
 (h:Row P w ad β H ak a b):Row P w' aF aO H' ak a b:=bX.mono hI hs aN _ _ _ c h
theorem Ac{c:Call}{s x:c9}(e:o.op= .call c)(hc:c.callee= .builtin .append)(b:c.args.toList=[s,x]){a:c9->dg}{w w':dp}{v:dg}
 (h:(fd c.argTypes o.type #[a s,a x]).run P w=.ok v w'):(dk a o).run P w=.ok (.value v) w':=by
 have d:c.args=#[s,x]:=by apply b3;simpa using b
 simp only[dk,e,resolve,hc,d];simp[invoke,builtin,h]
theorem atB{c:Call}{s x:c9}(e:o.op= .call c)(hc:c.callee= .builtin .copy)(b:c.args.toList=[s,x]){a:c9->dg}{w w':dp}{v:dg}
 (h:(gb c.argTypes o.type #[a s,a x]).run P w=.ok v w'):(dk a o).run P w=.ok (.value v) w':=by
 have d:c.args=#[s,x]:=by apply b3;simpa using b
 simp only[dk,e,resolve,hc,d];simp[invoke,builtin,h]
end
section
variable{P:db}{w:dp}{ad ai:Nat->Prop}{β:Bd}{H:Heap}
variable{o:Oper}{ρ:c9->AV}{base:Nat}
theorem zV{c:Call}{s x:c9}(C:o.op= .call c)(hc:c.callee= .builtin .append)(v:c.args.toList=[s,x]){T X e:da}(G:c.argTypes=#[T,X]){i:ee}{j:dg}{sz:Nat}(t:so P T sz e i)(u:iu P X=true)
 (K:i.zero=some j)(L:j.cells.size=sz)(E:cm P w ad β H ai){g:c9->dg}{p:Option Addr}{b f:Nat}{olds a:List AV}{ocss:List (List dg)}(hs:g s=.slice p b f)(Cj:olds.length=b)(l:Row P w ad β H sz olds ocss)(D:aV (aL H) olds)
 (B:(fb sz b (.slice p b f)).run P w.drew=.ok ocss.flatten.toArray w.drew)
 (hx:iD H (ρ x)=some a)(J:aA P w ad β H (ρ x) (g x))(I:aE (aL H) (ρ x))(F:fh P sz a)(z:f<b+a.length)(A:b+a.length<=cJ):
 ∃cap cells d M,(dk g o).run P w=.ok (.value (.slice (some ⟨w.heap.size,0,none⟩) (b+a.length) cap)) {w.drew with heap:=w.heap.push (.cells cells e)}/\
  Row P w ad β H sz (olds++a) d/\aV (aL H) (olds++a)/\cells.toList=d.flatten++M/\cells.size=cap*sz/\(olds++a).length<=cap:=by
 obtain⟨d,h,n,q,r⟩:=xS hx E J I F;have k:=r w.drew rfl a.length (km _);have N:d.length=a.length:=(gu h).1;rw[i4 o_]at k;obtain⟨cap,y,m⟩:=Z0 t u K o.type (sLen:=b) (sCap:=f) (p:=p) (g x) q B k z A;rw[<-G,<-hs]at m;refine⟨cap,_,ocss++d,(fm j.cells (cap-(b+a.length))).toList,Ac C hc v m,mf.2 ⟨_,_,rfl,l,h⟩,kD D n,s_,?_,by simpa[Cj]using y⟩;have e1:=(gu l).2;have e2:=(gu h).2;simp only[Array.size_append,h9,Md,L,e1,e2,Cj,<-kC];congr 1;omega
theorem vA{T:da}:gk P T≠.frozen/\gk P T≠.exact:=by
 unfold gk;split<;>simp
theorem Gz{T e:da}(h:ez P T=e)(hk:gk P T=.bytes):e=Gl.u8:=by
 unfold gk at hk
 split at hk
 ·rename_i a;rw[<-h];exact a
 ·cases hk
theorem Es{_o':Obj}{k:AK}{a:List AV}{b:List (List dg)}{r:List dg}{cells:Array dg}{e:da}{cap sz:Nat}(j:cm P w ad β H ai)(c:H[base]?=some .hole)
 (g:k≠.frozen)(i:¬dA k a)(m:Row P w ad β H sz a b)(d:aV (aL H) a)(hc:cells.toList=b.flatten++r)(o:cells.size=cap*sz)(h:a.length<=cap)(f:k=.exact->cap=a.length)(p:k=.bytes->e=Gl.u8):
 cj P ai ad w β H ad {w.drew with heap:=w.heap.push (.cells cells e)} (β.at base w.heap.size cap) (ba H ([]++newAt base [.arr k 0 sz a]))/\
 aA P {w.drew with heap:=w.heap.push (.cells cells e)} ad (β.at base w.heap.size cap) (ba H ([]++newAt base [.arr k 0 sz a])) (.sl base 0 sz 0 a.length) (.slice (some ⟨w.heap.size,0,none⟩) a.length cap)/\
 aE (aL (ba H ([]++newAt base [.arr k 0 sz a]))) (.sl base 0 sz 0 a.length):=by
 have l:cm P w.drew ad β H ai:=cm.xJ (w:=w) (w':=w.drew) rfl j;have n:Row P w.drew ad β H sz a b:=Row.mono (w:=w) (w':=w.drew) (fun _ x=>x) (fun _ _=>rfl) (cM.refl _ _) d m;obtain⟨q1,q⟩:=Aq (T:=e) (k:=k) l c g i n d hc o h f p;rw[mH];exact⟨cj.drew (w1:=w.drew) rfl ⟨rfl,rfl⟩ q1,q,⟨_,hS (hR.1 c).1,km _⟩⟩
theorem OD{b:Nat}{k k':AK}{ar ak:Nat}{i es':List AV}{aq cap:Nat}(f:H[b]?=some (.arr k ar ak i)):cM β H (β.at b aq cap) (H.set b (.arr k' (ar+1) ak es')):=by
 have j:b<H.length:=(hR.1 f).1;have c:∀x,x≠b->(H.set b (.arr k' (ar+1) ak es'))[x]?=H[x]?:=fun x hx=>h3 (le hx);have a:(H.set b (.arr k' (ar+1) ak es'))[b]?=some (.arr k' (ar+1) ak es'):=hS j;refine⟨?_,?_,?_,?_,?_⟩
 ·rintro x _ ⟨fz,t,h⟩
  by_cases hx:x=b
  ·subst hx;rw[a]at h;cases h
  ·rw[c x hx]at h;exact⟨⟨fz,t,h⟩,by simp[Bd.at,hx]⟩
 ·rintro x _ ⟨fz,t,h⟩
  by_cases hx:x=b
  ·subst hx;rw[a]at h;cases h
  ·rw[c x hx]at h;exact⟨⟨fz,t,h⟩,by simp[Bd.at,hx]⟩
 ·rintro x _ ⟨n,h,e⟩
  by_cases hx:x=b
  ·subst hx;rw[a]at h;cases h;exact e.elim
  ·rw[c x hx]at h;exact⟨⟨n,h,e⟩,by simp[Bd.at,hx]⟩
 ·intro x v z m g hi h;unfold fp at h
  by_cases hx:x=b
  ·subst hx;rw[a]at h;cases h;obtain⟨o,d,l⟩:=hi;simp only at d;rw[f]at d;cases d;simp only[Obj.has]at l;omega
  ·rw[c x hx]at h;exact⟨m,g,h,km _,Iff.rfl,fun _=>by simp[Bd.at,hx]⟩
 ·rintro x _ ⟨L,h⟩
  by_cases hx:x=b
  ·subst hx;rw[a]at h;cases h
  ·rw[c x hx]at h;exact⟨⟨L,h⟩,by simp[Bd.at,hx]⟩
theorem Bd.aob(β:Bd)(b:Nat):β.at b (β.aq b) (β.cap b)=β:=by
 cases β with
 |mk aq cap=>
  simp only[Bd.at,Bd.mk.injEq];constructor
  ·funext x;split
   ·rename_i h;rw[h]
   ·rfl
  ·funext x;split
   ·rename_i h;rw[h]
   ·rfl
theorem DO{α:Type}(A M Z X:List α):(A++M++Z).take A.length++X++(A++M++Z).drop (A.length+M.length)=A++X++Z:=by
 rw[ih A M Z,List.take_left,<-ih,<-hT,List.drop_left]
theorem asP{c:Call}{s x:c9}(W:o.op= .call c)(hc:c.callee= .builtin .append)(V:c.args.toList=[s,x])(bQ:c.argTypes.size=2){H0:Heap}{K:aZ->Prop}
 (h:oZ P (c.argTypes.getD 0 0) (c.argTypes.getD 1 0) H0 (ρ s) (ρ x) K):
 ∃e,K e/\bA P o ρ H0.length e/\(∀p∈e.al,H0[p.1]?=some p.2)/\(∀p∈e.aM,p.1<H0.length/\p.2≠.hole):=by
 obtain⟨T,X,R⟩:∃T X,c.argTypes=#[T,X]:=by
  obtain⟨l,hl⟩:∃l,l=c.argTypes.toList:=⟨_,rfl⟩
  have ae:l.length=2:=by rw[hl];simpa using bQ
  match l,ae with
  |[a,b],_=>exact⟨a,b,by apply b3;simp[<-hl]⟩
 have B:s∈o.op.operands/\x∈o.op.operands:=by
  have bE:c.args=#[s,x]:=by apply b3;simpa using V
  rw[W];simp[hj,gx,hc,bE]
 have e1:c.argTypes.getD 0 0=T:=by rw[R];rfl
 have e2:c.argTypes.getD 1 0=X:=by rw[R];rfl
 rw[e1,e2]at h;unfold oZ at h
 split at h
 case h_2=>exact h.elim
 rename_i sz g F hx;obtain⟨af,a7,ah,h⟩:=h;obtain⟨e,i,F⟩:=ly F;obtain⟨z,a7⟩:=li.1 a7;obtain⟨bZ,bV,be,z2,z3,z4⟩:=qj a7;rw[F.rN]at be z4;rw[F.info]at be;cases be;have aS:bV.cells.size=sz:=by
  obtain⟨_,i2,k1,k2⟩:=zX (v:=.p z) (w:=default) (ad:=fun _=>False) (β:=⟨id,id⟩) (H:=[]) z4 (by simp only[bw];exact z3 _ _);rw[F.info]at k1;cases k1;have:=F.size;simp at k2;omega
 have a9:∀{al:List (Nat×Obj)},(∀p∈dR H0 (ρ x),p∈al)->(∀p∈al,H0[p.1]?=some p.2)->g=[]->(∀(H:Heap)(w:dp)(ad ai:Nat->Prop)(β:Bd)(v:dg),cm P w ad β H ai->(∀p∈al,H[p.1]?=some p.2)->aA P w ad β H (ρ s) v->∃p a b,v= .slice p a b/\a<=b)->
  bA P o ρ H0.length {v:=ρ s,al}:=by
  intro al bP au bR bN;subst bR;refine bA.same fun H w ad ai β ap f j al=>?_;obtain⟨p,a,b,u,bD⟩:=bN H w ad ai β _ f al (j s B.1).1;obtain⟨E,C,ae,bz,bB⟩:=xS (rk hx (fun p u=>al p (bP p u))) f (j x B.2).1 (j x B.2).2 ah;have bi:=bB w rfl 0 (km _);simp only[List.take_zero,List.flatten_nil]at bi;have Q:=YY F af o.type (p:=p) (sLen:=a) (sCap:=b) _ bz bi bD;rw[<-R,<-u]at Q;exact⟨_,Ac W hc V Q,by rw[u];exact u▸(j s B.1).1,(j s B.1).2⟩
 have a8:∀l:List AV,l.isEmpty=true->l=[]:=fun l h=>by simpa using h
 split at h
 ·
  rename_i hs
  split at h
  ·rename_i G;refine⟨_,h,?_,oN,s_⟩;exact a9 (fun p u=>u) oN (a8 _ G) (fun H w ad ai β v _ _ A=>by rw[hs]at A;simp only[aA,aC]at A;exact⟨_,_,_,A,km _⟩)
  ·rename_i G;obtain⟨bn,h⟩:=h;refine⟨_,h,?_,oN,s_⟩;intro H w ad ai β ap f j al aD;have ag:H[H0.length]?=some .hole:=by simpa using aD 0 s_
   have O:=(j s B.1).1;rw[hs]at O;simp only[aA,aC]at O;have bp:0<g.length:=j2.2 (by simpa using G);obtain⟨cap,cells,E,D,aa,aj,ab,am,an,ao⟩:=zV W hc V R F af z2 aS f O (olds:=[]) (ocss:=[]) rfl (iW.2 rfl) (by simp[aV]) (by simp[fb])
    (rk hx al) (j x B.2).1 (j x B.2).2 ah o_ o_
   obtain⟨q1,Y,Z⟩:=Es (base:=H0.length) (k:=gk P T) (e:=e) (_o':=.hole) f ag vA.1 (fun q=>G (by simpa using q.2)) aj ab am an ao (fun h=>(vA.2 h).elim) (Gz F.rN);simp only[i7,kw]at aa q1 Y Z;exact⟨_,_,_,_,ad,aa,.inl rfl,q1,Y,Z⟩
 ·
  rename_i full d hs;obtain⟨bF,h⟩:=h
  have O:∀{H:Heap}{w:dp}{ad:Nat->Prop}{β:Bd}{v:dg},aA P w ad β H (ρ s) v->∃p c M,v= .slice p d.length c/\d.length<=c/\(full=true->c=d.length)/\Row P w ad β H sz (d.map .p) M/\
   (∀w':dp,w'.heap=w.heap->(fb sz d.length v).run P w'=.ok M.flatten.toArray w'):=by
   intro H w ad β v A;rw[hs]at A;simp only[aA,aC]at A;obtain⟨aq,off,cap,ak,E,v1,v2,v3,v4,v5,sp,bO,rfl⟩:=A;rcases bO with rfl|rfl
   case inr=>
    obtain rfl:d=[]:=h4.1 o_;exact⟨_,_,[],rfl,s_,s_,iW.2 rfl,fun w' _=>DG⟩
   have aI:Row P w ad β H ak (d.map .p) E:=mR.2 v1;have bt:Row P w ad β H sz (d.map .p) E:=by
    by_cases bo:d.map AV.p=[]
    ·rw[bo]at aI⊢;rw[iW]at aI⊢;exact aI
    ·rw[<-uO aI bF bo];exact aI
   refine⟨_,_,E,rfl,v5,v4,bt,fun w' a6=>xe (by have:=(gu bt).2;simpa using this) (v3.same (by rw[a6]))⟩
  split at h
  ·rename_i G;refine⟨_,h,?_,oN,s_⟩;exact a9 (fun p u=>u) oN (a8 _ G) (fun H w ad ai β v _ _ A=>by obtain⟨p,c,_,C,ae,_⟩:=O A;exact⟨p,_,c,C,ae⟩)
  ·rename_i G;obtain⟨hf,bn,h⟩:=h;refine⟨_,h,?_,oN,s_⟩;intro H w ad ai β ap f j al aD;have ag:H[H0.length]?=some .hole:=by simpa using aD 0 s_
   have bp:0<g.length:=j2.2 (by simpa using G);obtain⟨p,cp,M,s1,s2,bT,bU,bx⟩:=O (j s B.1).1;rw[s1]at bx;obtain⟨cap,cells,E,D,aa,aj,ab,am,an,ao⟩:=zV W hc V R F af z2 aS f s1 (olds:=d.map .p) s_ bU (jz _ _) (bx w.drew rfl)
    (rk hx al) (j x B.2).1 (j x B.2).2 ah (by have:=bT hf;omega) o_
   obtain⟨q1,Y,Z⟩:=Es (base:=H0.length) (k:=gk P T) (e:=e) (_o':=.hole) f ag vA.1 (fun q=>G (by have:=q.2;simp at this;simp[this.2])) aj ab am an ao (fun h=>(vA.2 h).elim) (Gz F.rN);simp only[hT,kc]at Y Z;exact⟨_,_,_,_,ad,aa,.inl rfl,q1,Y,Z⟩
 ·
  rename_i b ar ak off len hs
  split at h
  case h_2=>exact h.elim
  rename_i k b0 bW d a4;obtain⟨rfl,rfl,rfl,hlen,h⟩:=h;have au:∀p∈(b,Obj.arr k ar ak d)::dR H0 (ρ x),H0[p.1]?=some p.2:=by
   intro p u;rcases hX.1 u with rfl|u
   ·exact a4
   ·exact oN p u
  have O:∀{H:Heap}{w:dp}{ad ai:Nat->Prop}{β:Bd}{v:dg},cm P w ad β H ai->H[b]?=some (.arr k ar ak d)->aA P w ad β H (ρ s) v->
   (dA k d/\v=.slice none 0 0/\len=0)\/(¬dA k d/\v=.slice (some ⟨β.aq b,off*ak,none⟩) len (β.cap b-off)/\
   ∃cs T E D,w.heap[β.aq b]?=some (.cells cs T (0,0))/\Row P w ad β H ak d E/\cs.toList=E.flatten++D/\
   cs.size=β.cap b*ak/\d.length<=β.cap b/\(k=.exact->β.cap b=d.length)/\cQ ad β ai (k== .frozen) b/\(k=.bytes->T=Gl.u8)):=by
   intro H w ad ai β v f t A;rw[hs]at A;simp only[aA,bY,b7]at A;obtain⟨_,v2,v3⟩:=A.2 k d t
   by_cases q:dA k d
   ·exact .inl ⟨q,v2 q,by have:=q.2;subst this;simp at hlen;omega⟩
   ·rcases f.cX b _ t with hold|⟨cs,N,E,D,k1,k2,k3,k4,k5,k6,k7,k8⟩
    ·exact(q hold).elim
    ·exact .inr ⟨q,v3 q,cs,N,E,D,k1,k2,k3,k4,k5,k6,k7,k8.2⟩
  have holds:∀{H:Heap}{w:dp}{ad:Nat->Prop}{β:Bd}{cs:Array dg}{N:da}{E:List (List dg)}{D:List dg},w.heap[β.aq b]?=some (.cells cs N (0,0))->Row P w ad β H ak d E->cs.toList=E.flatten++D->
   ∃M,Row P w ad β H ak ((d.drop off).take len) M/\∀(w':dp)(n c:Nat),w'.heap=w.heap->(fb ak len (.slice (some ⟨β.aq b,off*ak,none⟩) n c)).run P w'=.ok M.flatten.toArray w':=by
   intro H w ad β cs N E D k1 k2 k3;obtain⟨a,m,z,g1,g2,g3,g4,g5⟩:=kF k2 off len hlen;refine⟨m,g2,fun w' n c a6=>xe (by have:=(gu g2).2;rw[this];congr 1;simp;omega) ?_⟩;have:=mL k1 (pre:=a.flatten) (xs:=m.flatten) (post:=z.flatten++D) (by rw[k3,g1];simp);rw[g3]at this;exact this.same (by rw[a6])
  split at h
  ·rename_i G;refine⟨_,h,?_,au,s_⟩;refine a9 (fun p u=>h2 _ u) au (a8 _ G) (fun H w ad ai β v f al A=>?_);rcases O f (al (b,_) s_) A with⟨_,C,_⟩|⟨q,C,cs,N,E,D,ae⟩
   ·exact⟨_,_,_,C,km _⟩
   ·exact⟨_,_,_,C,o_⟩
  ·rename_i G;have bp:0<g.length:=j2.2 (by simpa using G);obtain⟨bn,h⟩:=h
   split at h
   ·exact h.elim
   ·
    split at h
    ·rename_i aw;refine⟨_,h,?_,au,by simpa using(hR.1 a4).1⟩;intro H w ad ai β ap f j al _;have t:H[b]?=some (.arr .exact ar ak d):=al (b,_) s_;rcases O f t (j s B.1).1 with⟨q,_⟩|⟨q,C,cs,N,E,D,k1,k2,k3,k4,k5,k6,k7,k8⟩
     ·cases q.1
     obtain⟨J,U,bb,bc,bd⟩:=xS (rk hx (fun p u=>al p (h2 _ u))) f (j x B.2).1 (j x B.2).2 ah;have aK:=bd w rfl g.length (km _);rw[i4 (by have:=(gu U).1;omega)]at aK;have bl:=k6 rfl;obtain⟨a,m,ac,g1,g2,g3,g4,g5⟩:=kF k2 (off+len) g.length aw;have ax:=(gu U).2;have av:m.flatten.length=g.length*ak:=by have:=(gu g2).2;rw[this];congr 1;simp;omega
     have aM:cs.toList=a.flatten++m.flatten++(ac.flatten++D):=by rw[k3,g1];simp
     have bk:a.flatten.length=off*ak+len*ak:=by rw[g3,kC]
     have bu:cs.size=a.flatten.length+m.flatten.length+(ac.flatten++D).length:=by
      have:=congrArg j4 aM;simp only[hT,b5]at this;rw[this,hT]
     have Q:=Mc F af o.type (sLen:=len) (sCap:=β.cap b-off) _ bc k1 aK (xZ U) o_ (by rw[ax,bu,bk,av];exact kA _ _);rw[<-R,<-C]at Q;have aX:cs.toList.take (off*ak+len*ak)++J.flatten++cs.toList.drop (off*ak+len*ak+J.flatten.length)=a.flatten++J.flatten++(ac.flatten++D):=by
      rw[aM,<-bk,ax,<-av];exact DO _ _ _ _
     rw[aX]at Q;have aN:cM β H β (H.set b (.arr .exact ar ak (d.take (off+len)++g++d.drop (off+len+g.length)))):=qw t (.inr (.inl ⟨_,_,_,_,_,rfl,rfl,by simp;omega⟩));have aB:¬ad (β.aq b)/\¬ai (β.aq b):=by
      unfold cQ at k7;rw[if_neg s_]at k7;exact k7
     have a5:∀I,ad I->(w.setRow (β.aq b) (a.flatten++J.flatten++(ac.flatten++D)).toArray).heap[I]?=w.heap[I]?:=fun I a1=>ea w _ I _ (fun a0=>aB.1 (a0▸a1));have hrefs:aV (aL H) (d.take (off+len)++g++d.drop (off+len+g.length)):=by
      have bq:=cB.1 (f.refs b _ t);refine kD (kD ?_ bb) ?_
      ·rw[cB];exact fun v A=>bq v (h0 A)
      ·rw[cB];exact fun v A=>bq v (h6 A)
     have aP:=mS t (o:=.arr .exact ar ak (d.take (off+len)++g++d.drop (off+len+g.length))) (fun _ h=>h);have a2:(d.take (off+len)++g++d.drop (off+len+g.length)).length=d.length:=by simp;omega
     have aH:=sd f t q (o':=.arr .exact ar ak (d.take (off+len)++g++d.drop (off+len+g.length))) (fun S=>by cases S.1) (fun _ h=>h) k1 (new:=(a.flatten++J.flatten++(ac.flatten++D)).toArray) aB aN
      (.inr ⟨_,N,a++J++ac,D,ec w _ _ _ N _ k1,by
       refine Row.mono (fun _ x=>x) a5 aN hrefs (mf.2 ⟨_,_,rfl,mf.2 ⟨_,_,rfl,g4,U⟩,g5⟩),s_,by
       rw[<-k4,bu];simp only[h9,hT,ax,av],by rw[a2];exact k5,fun _=>by rw[a2];exact bl,k7,(fun aQ=>by cases aQ),k8⟩) (aV.mono aP _ hrefs)
     refine⟨_,_,_,β,ad,Ac W hc V Q,.inl rfl,aH,?_,?_⟩
     ·simp only[aA,bY,b7,ba,newAt,hW];refine⟨by simp[hN],fun I bg hl=>?_⟩;unfold fp at hl;rw[hS (hR.1 t).1]at hl;cases hl;exact⟨by rw[a2];omega,(fun S=>by cases S.1),fun _=>trivial⟩
     ·simp only[aE];exact⟨_,hS (hR.1 t).1,km _⟩
    ·rename_i aw;refine⟨_,h,?_,au,s_⟩;intro H w ad ai β ap f j al aD;have ag:H[H0.length]?=some .hole:=by simpa using aD 0 s_
     have t:H[b]?=some (.arr .exact ar ak d):=al (b,_) s_;rcases O f t (j s B.1).1 with⟨q,_⟩|⟨q,C,cs,N,E,D,k1,k2,k3,k4,k5,k6,k7,k8⟩
     ·cases q.1
     have bl:=k6 rfl;obtain⟨M,aJ,aT⟩:=holds k1 k2 k3;have bm:((d.drop off).take len).length=len:=by simp;omega
     obtain⟨cap,cells,bf,bv,aa,aj,ab,am,an,ao⟩:=zV W hc V R F af z2 aS f C (olds:=(d.drop off).take len) bm aJ
      (by rw[cB];exact fun v A=>cB.1 (f.refs b _ t) v (h6 (h0 A))) (aT w.drew _ _ rfl)
      (rk hx (fun p u=>al p (h2 _ u))) (j x B.2).1 (j x B.2).2 ah o_ o_
     obtain⟨q1,Y,Z⟩:=Es (base:=H0.length) (k:=gk P T) (e:=e) (_o':=.hole) f ag vA.1 (fun q=>G (by have:=q.2;simp at this;simp[this.2])) aj ab am an ao (fun h=>(vA.2 h).elim) (Gz F.rN);rw[hT,bm]at Y Z;exact⟨_,_,_,_,ad,aa,.inl rfl,q1,Y,Z⟩
   ·
    rename_i bH bI;obtain⟨rfl,bJ,h⟩:=h;have aG:k≠.frozen:=fun e=>bH e;have aQ:k≠.exact:=fun e=>bI e;have bX:(k==AK.frozen)=false:=by simpa using aG
    refine⟨_,h,?_,au,by simpa using(hR.1 a4).1⟩;intro H w ad ai β ap f j al _;have t:H[b]?=some (.arr k ar ak d):=al (b,_) s_;have ay:b<H.length:=(hR.1 t).1;have aR:(d.take len).length=len:=by simp;omega
    have bs:aV (aL H) (d.take len):=by rw[cB];exact fun v A=>cB.1 (f.refs b _ t) v (h0 A)
    have a3:¬dA k (d.take len++g):=fun S=>G (by have:=S.2;simp at this;simp[this.2]);have aP:=mS t (o:=.arr k (ar+1) ak (d.take len++g)) (fun v h=>by simp only[Obj.has]at h⊢;omega)
    have bh:∀(p:Option Addr)(aW:Nat)(M:List (List dg)),ap s= .slice p len aW->Row P w ad β H ak (d.take len) M->(fb ak len (.slice p len aW)).run P w.drew= .ok M.flatten.toArray w.drew->aW<len+g.length->
     ∃n aY w' aO aF,(dk ap o).run P w=.ok n w'/\(n=.value aY\/n=.skip/\aY=undef)/\
      cj P ai ad w β H aF w' aO (H.set b (.arr k (ar+1) ak (d.take len++g)))/\aA P w' aF aO (H.set b (.arr k (ar+1) ak (d.take len++g))) (.sl b (ar+1) ak 0 (len+g.length)) aY/\
      aE (aL (H.set b (.arr k (ar+1) ak (d.take len++g)))) (.sl b (ar+1) ak 0 (len+g.length)):=by
     intro p aW M C bL bK bG;obtain⟨cap,cells,bf,bv,aa,aj,ab,am,an,ao⟩:=zV W hc V R F af z2 aS f C (olds:=d.take len) aR bL bs bK
      (rk hx (fun p u=>al p (h2 _ u))) (j x B.2).1 (j x B.2).2 ah bG o_
     have aN:=OD (β:=β) (k':=k) (es':=d.take len++g) (aq:=w.heap.size) (cap:=cap) t;have aH:cj P ai ad w β H ad {w.drew with heap:=w.heap.push (.cells cells e)} (β.at b w.heap.size cap) (H.set b (.arr k (ar+1) ak (d.take len++g))):=by
      refine cj.set f ay (fun y bS=>by simp[Bd.at,bS]) (fun _ y=>y) (fun _ y=>.inl y) (fun k hk=>by have:=f.cd k hk;simp;omega) s_
       (fun k _ hk=>by simp[cr,lb hk]) (fun _=>.inl (by simp[Bd.at])) aN
       (.inr ⟨cells,e,bf,bv,by simp[Bd.at],Row.mono (fun _ y=>y) (fun k hk=>by have:=f.cd k hk;simp[cr,lb this]) aN ab aj,am,by simp[Bd.at,an],by simpa[Bd.at]using ao,(fun az=>(aQ az).elim),by
        unfold cQ;rw[if_neg (by simpa using aG)];simp only[Bd.at,if_true];exact⟨fun h=>ko _ (f.cd _ h),fun h=>ko _ (f.fe _ h)⟩,(fun az=>(aG az).elim),fun ag=>F.rN▸bJ ag⟩)
       (aV.mono aP _ ab) (fun aJ v C ae=>by rw[t]at C;cases C;simp only[Obj.has]at ae⊢;omega) (fun L bj=>by rw[t]at bj;cases bj)
     refine⟨_,_,_,_,ad,aa,.inl rfl,aH,?_,?_⟩
     ·simp only[aA,bY,b7];refine⟨by simp[hN],fun I bg hl=>?_⟩;unfold fp at hl;rw[hS ay]at hl;cases hl;exact⟨by rw[hT,aR];omega,fun S=>(a3 S).elim,fun _=>by simp[Bd.at]⟩
     ·simp only[aE];exact⟨_,hS ay,km _⟩
    simp only[ba,newAt,hW];rcases O f t (j s B.1).1 with⟨q,C,rfl⟩|⟨q,C,cs,N,E,D,k1,k2,k3,k4,k5,k6,k7,k8⟩
    ·exact bh none 0 [] C (by simp[iW]) (by simp[fb]) o_
    ·simp only[kW,Nat.sub_zero]at C
     by_cases aw:len+g.length<=β.cap b
     ·
      obtain⟨J,U,bb,bc,bd⟩:=xS (rk hx (fun p u=>al p (h2 _ u))) f (j x B.2).1 (j x B.2).2 ah;have aK:=bd w rfl g.length (km _);rw[i4 (by have:=(gu U).1;omega)]at aK;obtain⟨a,m,ac,g1,g2,g3,g4,g5⟩:=kF k2 0 len hlen;have bC:a=[]:=by have:=(gu g4).1;simpa using this
      subst bC;have ax:=(gu U).2;have av:m.flatten.length=len*ak:=by have:=(gu g2).2;rw[this];congr 1
      have aM:cs.toList=m.flatten++(ac.flatten++D):=by rw[k3,g1];simp
      have bM:=Nat.mul_le_mul_right ak aw;rw[kC]at bM;have Q:=Mc F af o.type (off:=0) (sLen:=len) (sCap:=β.cap b) _ bc k1 aK (xZ U) aw (by rw[ax,k4];omega);rw[<-R,<-C]at Q;obtain⟨aU,br⟩:∃r,r=cs.toList.drop (len*ak+J.flatten.length):=⟨_,rfl⟩
      have aX:cs.toList.take (0+len*ak)++J.flatten++cs.toList.drop (0+len*ak+J.flatten.length)=(m++J).flatten++aU:=by
       rw[kw,<-br];congr 1;rw[aM,<-av];simp
      rw[aX]at Q;have aB:¬ad (β.aq b)/\¬ai (β.aq b):=by
       unfold cQ at k7;rw[if_neg (by simpa using aG)]at k7;exact k7
      have aN:cM β H β (H.set b (.arr k (ar+1) ak (d.take len++g))):=by
       have:=OD (β:=β) (k':=k) (es':=d.take len++g) (aq:=β.aq b) (cap:=β.cap b) t
       rwa [Bd.aob]at this
      have a5:∀I,ad I->(w.setRow (β.aq b) ((m++J).flatten++aU).toArray).heap[I]?=w.heap[I]?:=fun I a1=>ea w _ I _ (fun a0=>aB.1 (a0▸a1));have hrefs:aV (aL H) (d.take len++g):=kD bs bb;have aH:=sd f t q (o':=.arr k (ar+1) ak (d.take len++g)) a3 (fun v h=>by simp only[Obj.has]at h⊢;omega) k1 (new:=((m++J).flatten++aU).toArray) aB aN
       (.inr ⟨_,N,m++J,aU,ec w _ _ _ N _ k1,by
        refine Row.mono (fun _ x=>x) a5 aN hrefs (mf.2 ⟨_,_,rfl,?_,U⟩);simpa using g2,s_,by
        rw[<-k4];simp only[h9,hT,ip,ax,av,br,List.length_drop,b5,k4];omega,by rw[hT,aR];exact aw,(fun az=>(aQ az).elim),k7,(fun h=>(aG h).elim),k8⟩) (aV.mono aP _ hrefs)
      refine⟨_,_,_,β,ad,Ac W hc V Q,.inl rfl,aH,?_,?_⟩
      ·simp only[aA,bY,b7];refine⟨by simp[hN],fun I bg hl=>?_⟩;unfold fp at hl;rw[hS ay]at hl;cases hl;exact⟨by rw[hT,aR];omega,fun S=>(a3 S).elim,fun _=>by simp⟩
      ·simp only[aE];exact⟨_,hS ay,km _⟩
     ·obtain⟨M,aJ,aT⟩:=holds k1 k2 k3;simp only[j5,kW]at aJ aT;exact bh _ _ M C aJ (aT w.drew _ _ rfl) o_
 ·exact h.elim
end
section
variable{P:db}{w:dp}{ad ai:Nat->Prop}{β:Bd}{H:Heap}
variable{o:Oper}{ρ:c9->AV}{base:Nat}
def jB(bs:ByteArray):List Nat:=bs.data.toList.map (·.toNat)
theorem DK:∀{a b:List UInt8},a.map (·.toNat)=b.map (·.toNat)->a=b
 |[],[],_=>rfl
 |[],_::_,h=>by simp at h
 |_::_,[],h=>by simp at h
 |x::a,y::b,h=>by
  simp at h;rw[lw.1 h.1,DK h.2]
theorem bytes_beq(a b:ByteArray):(a.toList==b.toList)=(jB a==jB b):=by
 rw[gt,gt];unfold jB
 by_cases h:a.data.toList=b.data.toList
 ·simp[h]
 ·have d:¬(a.data.toList.map (·.toNat)=b.data.toList.map (·.toNat)):=fun c=>h (DK c)
  rw[beq_eq_false_iff_ne.2 h,beq_eq_false_iff_ne.2 d]
theorem LF:∀a b:List UInt8,ho a b=jN (a.map (·.toNat)) (b.map (·.toNat))
 |[],[]=>rfl
 |_::_,[]=>rfl
 |[],_::_=>rfl
 |x::a,y::b=>by
  simp only[ho,hV,jN,LF a b];congr 1
  ·congr 1
   by_cases h:x=y
   ·simp[h]
   ·have:¬x.toNat=y.toNat:=fun c=>h (lw.1 c);rw[beq_eq_false_iff_ne.2 h,beq_eq_false_iff_ne.2 this]
theorem aPk{c:dz}{T j:da}{x y:c9}{a b:List Nat}{K:PV->Prop}(g:o.op= .binOp c T x y j)(hx:ρ x= .p (.str a))(q:ρ y= .p (.str b))
 (h:qW c a b K)(al:List (Nat×Obj)):∃v,K v/\bA P o ρ base {v:=.p v,al}:=by
 have key:∀v,K v->(∀(w:dp)(ad:Nat->Prop)(s t:ByteArray),a=jB s->b=jB t->∃r,(hv c s t).run P w=.ok r w/\aC P w ad v r)->∃v,K v/\bA P o ρ base {v:=.p v,al}:=by
  intro v n m;refine⟨v,n,bA.same fun H w ad ai β B A i _=>?_⟩;have e:=(i x (by simp[g,hj])).1;have f:=(i y (by simp[g,hj])).1;rw[hx]at e;rw[q]at f;simp only[aA,QD]at e f;obtain⟨s,e1,e2⟩:=e;obtain⟨t,e3,e4⟩:=f;obtain⟨r,u,z⟩:=m w ad s t e2 e4;refine⟨r,?_,by simpa only[aA]using z,by simp[aE]⟩;simp only[dk,g,e1,e3];refine eX ?_;have l:(eqGuard c T x y (.string s) (.string t)).run P w=.ok () w:=by
   unfold eqGuard
   split<;>simp
  have k:(binOp c T (.string s) (.string t)).run P w=.ok r w:=by
   cases c<;>first|(simp[qW]at h;done)|exact u
  simp[l,k]
 have hl:∀s t:ByteArray,a=jB s->b=jB t->ho s.toList t.toList=jN a b/\(s.toList==t.toList)=(a==b):=by
  intro s t hs d;rw[bytes_beq,<-hs,<-d,LF,gt,gt];exact⟨by rw[hs,d];rfl,rfl⟩
 cases c<;>simp only[qW]at h
 case add=>
  refine key _ h.2 fun w ad s t hs d=>⟨.string (s++t),run_string_add_sum w s t ?_,?_⟩
  ·have e:a.length=s.size:=by rw[hs];simp[jB]
   have f:b.length=t.size:=by rw[d];simp[jB]
   omega
  ·rw[QD];exact⟨_,rfl,by rw[hs,d];simp[jB,ByteArray.data_append]⟩
 case eql|neq|lss|leq|gtr|geq=>
  refine key _ h fun w ad s t hs d=>?_;obtain⟨e1,e2⟩:=hl s t hs d;exact⟨_,by simp only[hv,e1,e2];rfl,by simp[aC]⟩
theorem XP{T:da}(h:sR P T=true):P.underlying T=some .bool:=by
 unfold sR at h
 split at h
 ·assumption
 ·simp at h
theorem Lw{T:da}{a b:dg}{r:Bool}{w:dp}(h:(hn T a b).run P w= .ok r w)(d:(∃x,a= .bool x)\/(∃x,a= .agg x)\/(∃p n c,a= .slice p n c)\/(∃m,a= .map m)\/a= .nilFunc\/(∃f x y,a= .func f x y)\/(∃p,a= .pointer p)\/a= .nilIface):
 (binOp .eql T a b).run P w=.ok (.bool r) w/\(binOp .neq T a b).run P w=.ok (.bool !r) w:=by
 rcases d with⟨x,rfl⟩|⟨x,rfl⟩|⟨p,n,c,rfl⟩|⟨m,rfl⟩|rfl|⟨f,x,y,rfl⟩|⟨p,rfl⟩|rfl
 all_goals (constructor<;>(unfold binOp;simp[h]))
def jW.isAgg:jW->Bool
 | .agg _=>true
 |_=>false
theorem atm{T:da}{t:jW}(hk:kindOf P T=t)(a:t≠.bad)(w:dp):(isAgg T).run P w=.ok t.isAgg w:=by
 unfold kindOf at hk;cases hu:P.underlying T with
 |none=>rw[hu]at hk;simp at hk;exact(a hk.symm).elim
 |some d=>
  rw[hu]at hk;simp only[isAgg,hF,c8 hu,hD];cases d<;>simp only at hk<;>(split at hk<;>first|(subst hk;rfl)|exact(a hk.symm).elim)
theorem sT{F:da}{v:PV}{pre c post:List dg}{cs:Array dg}(hk:kindOf P F=aP v)(b:aY P w ad v c)(e:cs.toList=pre++c++post):
 ∃x,(part F cs pre.length).run P w=.ok x w/\aC P w ad v x:=by
 obtain⟨j,i,f,g⟩:=zX (v:=.p v) (β:=⟨id,id⟩) (H:=[]) (w:=w) (ad:=ad) hk (by simpa only[bw]using b);have d:=(oX b).2;have a:=atm hk d w;cases hs:aP v with
 |bad=>exact(d hs).elim
 |leaf=>
  rw[hs]at a;obtain⟨x,rfl,hx⟩:=(uP hs c).1 b;refine⟨x,?_,hx⟩;have:cs[pre.length]?=some x:=by rw[<-b4,e];simp
  simp[part,a,this,jW.isAgg]
 |agg u=>
  rw[hs]at a;refine⟨.agg c.toArray,?_,(ya hs c).1 b⟩;have h:(sizeOf F).run P w=.ok c.length w:=by simp[sizeOf,typeInfo,f,g]
  have:cs.extract pre.length (pre.length+c.length)=c.toArray:=by
   apply b3;rw[Array.toList_extract,e];simp[List.extract_eq_take_drop]
  simp[part,a,h,this,jW.isAgg]
theorem x9{n:Nat}{b:List Nat}{v:PV}{vs:List PV}{a:List (List dg)}(h:bm P w ad (n::b) (v::vs) a):∃c cs,a=c::cs/\aY P w ad v c/\c.length=n/\bm P w ad b vs cs:=by
 simpa only[bm]using h
theorem LC{eqF:da->PV->PV->Option Bool}{d:Nat}(A:∀F a b r,eqF F a b=some r->kindOf P F=aP a->kindOf P F=aP b->∀x y,aC P w ad a x->aC P w ad b y->(hm d F x y).run P w= .ok r w){X Y:Array dg}:
 ∀(fs:List en)(l:List Nat)(h j:List PV)(r:Bool)(pre k:List dg)(m o:List (List dg)),gv P eqF (fs.map (·.type)) h j=some r->fs.all (fun f=>f.name != "_")=true->
 (∀(i:Nat)(f:en),fs[i]?=some f->f.offset=pre.length+(l.take i).sum)->bm P w ad l h m->bm P w ad l j o->pre.length=k.length->
 X.toList=pre++m.flatten->Y.toList=k++o.flatten->(hp d X Y fs).run P w=.ok r w
 |[],l,h,j,r,pre,k,m,o,e,_,_,_,_,_,_,_=>by
  cases h<;>cases j<;>simp[gv]at e;subst e;simp[hp]
 |f::fs,l,h,j,r,pre,k,m,o,e,p,u,hx,K,z,s,hY=>by
  cases h with
  |nil=>simp[gv]at e
  |cons a h=>
   cases j with
   |nil=>simp[gv]at e
   |cons b j=>
    cases l with
    |nil=>simp[bm]at hx
    |cons n l=>
     simp only[hV,gv]at e
     split at e
     case isFalse=>simp at e
     rename_i hk
     split at e
     case h_2=>simp at e
     rename_i M N D E;simp at e;subst e;obtain⟨c,cs,rfl,hc,t,J⟩:=x9 hx;obtain⟨c',q,rfl,G,H,L⟩:=x9 K;simp only[List.all_cons,cy,bne_iff_ne]at p;have v:f.offset=pre.length:=by simpa using u 0 f s_
     obtain⟨x,B,Q⟩:=sT hk.1 hc (pre:=pre) (post:=cs.flatten) (cs:=X) (by rw[s];simp);obtain⟨y,C,R⟩:=sT hk.2 G (pre:=k) (post:=q.flatten) (cs:=Y) (by rw[hY];simp);have e1:=A _ _ _ _ D hk.1 hk.2 x y Q R;rw[<-v]at B;rw[<-z,<-v]at C;have O:=LC A fs l h j N (pre++c) (k++c') cs q E p.2 (by
      intro i g I;have:=u (i+1) g (by simpa using I);rw[this,j7,kd,hT,t];omega) J L (by simp[z,t,H]) (by rw[s];simp) (by rw[hY];simp)
     simp only[hp,p.1,ne_eq,not_false_eq_true,if_true,hF,B,C,e1,hD];cases M with
     |false=>simp
     |true=>simpa using O
theorem II{eqF:da->PV->PV->Option Bool}{d:Nat}{e:da}(t:∀a b r,eqF e a b=some r->∀x y,aC P w ad a x->aC P w ad b y->(hm d e x y).run P w= .ok r w){X Y:Array dg}:
 ∀(n k:Nat)(g h:List PV)(r:Bool)(pre i:List dg)(j l:List (List dg)),gv P eqF (hU n e) g h=some r->
 bm P w ad (hU n (P.cellsOf e)) g j->bm P w ad (hU n (P.cellsOf e)) h l->pre.length=k*P.cellsOf e->i.length=k*P.cellsOf e->
 X.toList=pre++j.flatten->Y.toList=i++l.flatten->(ht d e (P.cellsOf e) X Y (List.range' k n)).run P w=.ok r w
 |0,k,g,h,r,pre,i,j,l,f,_,_,_,_,_,_=>by
  cases g<;>cases h<;>simp[gv]at f;subst f;simp[ht]
 |n+1,k,g,h,r,pre,i,j,l,f,hx,s,p,q,o,hY=>by
  cases g with
  |nil=>simp[js,gv]at f
  |cons a g=>
   cases h with
   |nil=>simp[js,gv]at f
   |cons b h=>
    rw[js]at f hx s;simp only[gv]at f
    split at f
    case isFalse=>simp at f
    rename_i hk
    split at f
    case h_2=>simp at f
    rename_i G H z A;simp at f;subst f;obtain⟨c,cs,rfl,hc,C,E⟩:=x9 hx;obtain⟨c',m,rfl,B,D,F⟩:=x9 s;obtain⟨x,u,J⟩:=sT hk.1 hc (pre:=pre) (post:=cs.flatten) (cs:=X) (by rw[o];simp);obtain⟨y,v,K⟩:=sT hk.2 B (pre:=i) (post:=m.flatten) (cs:=Y) (by rw[hY];simp);have e1:=t _ _ _ z x y J K;rw[p]at u;rw[q]at v;have I:=II t n (k+1) g h H (pre++c) (i++c') cs m A E F (by rw[hT,p,C,la]) (by rw[hT,q,D,la]) (by rw[o];simp) (by rw[hY];simp);rw[List.range'_succ];simp only[ht,hF,u,v,e1,hD];cases G with
    |false=>simp
    |true=>simpa using I
theorem AW:∀(n:Nat)(T:da)(v v':PV)(r:Bool),eA P n T v v'=some r->∀x y,aC P w ad v x->aC P w ad v' y->∀d,n<=d->(hm d T x y).run P w=.ok r w
 |0,_,_,_,_,h,_,_,_,_,_,_=>by simp[eA]at h
 |n+1,T,v,v',r,h,x,y,hx,g,d,L=>by
  obtain⟨d,rfl⟩:∃e,d=e+1:=⟨d-1,o_⟩
  unfold eA at h
  split at h
  ·rename_i a b c;simp at h;subst h;simp only[aC]at hx g;subst hx;subst g;simp[hm,c8 c]
  ·rename_i k0 k a M b c
   split at h
   case isFalse=>simp at h
   rename_i hk;subst hk;simp at h;subst h;simp only[aC]at hx g;subst hx;subst g;exact run_equalIn_int w d T k k0 a b c
  ·rename_i a b c;simp at h;subst h;simp only[aC]at hx g;obtain⟨s,rfl,hs⟩:=hx;obtain⟨t,rfl,H⟩:=g;rw[run_equalIn_string w d T s t c,bytes_beq,hs,H];rfl
  ·rename_i fs u A u' B c
   split at h
   case isFalse=>simp at h
   rename_i hc;obtain⟨hk,rfl,G,E⟩:=hc;simp only[aC]at hx g;obtain⟨l,j,k1,k2,rfl⟩:=hx;obtain⟨D,o,k3,k4,rfl⟩:=g;rw[k1]at k3;cases k3;obtain⟨K,D,s1,s2,q,z,N,I⟩:=xl (P:=P) (T:=T) (u:=u') (n:=fs.size) (by unfold fZ;rw[hk,c]);rw[c]at s1;cases s1;rw[k1]at z;cases z;have C:P.fieldsOf T=fs:=by simp[Program.fieldsOf,c]
   rw[run_equalIn_struct w d T _ _ (by rw[C];exact c) G,C];refine LC (eqF:=eA P n) (fun F a b r p _ _ x y hx g=>AW n F a b r p x y hx g d o_) fs.toList l A B r [] [] j o h E ?_ k2 k4 rfl s_ s_;intro i f hf;have hi:i<fs.size:=by
    have:=(hR.1 hf).1;simpa using this
   obtain⟨J,g1,g2,_⟩:=I i hi;rw[b4,g1]at hf;cases hf;simpa using g2
  ·rename_i m e u A u' B c
   split at h
   case isFalse=>simp at h
   rename_i hc;obtain⟨hk,rfl,hi⟩:=hc;simp only[aC]at hx g;obtain⟨l,j,k1,k2,rfl⟩:=hx;obtain⟨D,o,k3,k4,rfl⟩:=g;rw[k1]at k3;cases k3;obtain⟨e',s1,s2,q,z⟩:=uR (P:=P) (T:=T) (u:=u') (n:=m) (by unfold iQ;rw[hk,c]);rw[c]at s1;cases s1;rw[k1]at q;cases q;obtain⟨i,hi⟩:=li.1 hi;rw[run_equalIn_array w d _ _ c hi,List.range_eq_range'];exact II (eqF:=eA P n) (fun a b r p x y hx g=>AW n e a b r p x y hx g d o_) m 0 A B r [] [] j o h k2 k4 s_ s_ s_ s_
  ·simp at h
end
section
variable{P:db}{w:dp}{ad ai:Nat->Prop}{β:Bd}{H:Heap}
variable{o:Oper}{ρ:c9->AV}{base:Nat}
theorem FN{d:dz}{T C:da}{x y:c9}{r:Bool}{K:PV->Prop}{l:List (Nat×Obj)}(k:o.op= .binOp d T x y C)
 (D:d=.eql/\K (.bool r)\/d=.neq/\K (.bool !r))
 (I:∀(H:Heap)(w:dp)(ad ai:Nat->Prop)(β:Bd)(a b:dg),cm P w ad β H ai->(∀p∈l,H[p.1]?=some p.2)->aA P w ad β H (ρ x) a->aA P w ad β H (ρ y) b->(hn T a b).run P w=.ok r w/\
  ((∃x,a=.bool x)\/(∃x,a=.agg x)\/(∃p n c,a=.slice p n c)\/(∃m,a=.map m)\/a=.nilFunc\/(∃f x y,a=.func f x y)\/(∃p,a=.pointer p)\/(a=.nilIface/\nr y=true))/\(∀u v,a=.agg u->b=.agg v->P.eqGuardType P.depth T=false)):
 ∃v,K v/\bA P o ρ base {v:=.p v,al:=l}:=by
 have key:∀v,K v->(∀(w:dp)(a b:dg),(hn T a b).run P w= .ok r w->((∃x,a= .bool x)\/(∃x,a= .agg x)\/(∃p n c,a= .slice p n c)\/(∃m,a= .map m)\/a= .nilFunc\/(∃f x y,a= .func f x y)\/(∃p,a= .pointer p)\/a= .nilIface)->
  ∃q,v=.bool q/\(binOp d T a b).run P w=.ok (.bool q) w)->∃v,K v/\bA P o ρ base {v:=.p v,al:=l}:=by
  intro v J hq;refine⟨v,J,bA.same fun H w ad ai β s G t al=>?_⟩;obtain⟨L,z,A⟩:=I H w ad ai β _ _ G al (t x (by simp[k,hj])).1 (t y (by simp[k,hj])).1;obtain⟨q,rfl,F⟩:=hq w _ _ L (by rcases z with h|h|h|h|h|h|h|h<;>simp[h]);refine⟨.bool q,?_,by simp[aA,aC],by simp[aE]⟩;simp only[dk,k];refine eX ?_;have E:(eqGuard d T x y (s x) (s y)).run P w=.ok () w:=by
   rcases z with⟨p,e⟩|⟨p,e⟩|⟨p,n,c,e⟩|⟨m,e⟩|e|⟨f,M,N,e⟩|⟨p,e⟩|⟨e,hc⟩
   all_goals rw[e]at A⊢
   case inr.inl=>
    cases hy:s y with
    |agg B=>
     exact run_eqGuard_agg w d T x y p B (A p B rfl hy)
    |_=>cases d<;>rfl
   case inr.inr.inr.inr.inr.inr.inr=>
    cases y<;>simp[nr]at hc;unfold eqGuard;cases d<;>simp<;>(split<;>simp_all)
   all_goals (cases d<;>rfl)
  simp[E,F]
 rcases D with⟨rfl,j⟩|⟨rfl,j⟩
 ·exact key _ j fun w a b g i=>⟨_,rfl,(Lw g i).1⟩
 ·exact key _ j fun w a b g i=>⟨_,rfl,(Lw g i).2⟩
theorem AO(T:da)(a b:dg):∃d,9<=d+1/\hn T a b=hm (d+1) T a b:=⟨9999,o_,rfl⟩
theorem MO{T:da}{c:Bool}{b:AV}{k:wv}(h:dy P T c b=some k):
 (k=.ptr/\b=.p .dX/\∃e,P.underlying T=some (.pointer e))\/(k=.slice/\b=.p .aH/\∃e,P.underlying T=some (.slice e))\/
 (k=.map/\b=.p .fM/\∃e f,P.underlying T=some (.map e f))\/(k=.func/\b=.p .jb/\∃e f g,P.underlying T=some (.func e f g))\/(k=.iface/\b=.p .gK/\c=true/\∃m,P.underlying T=some (.interface m)):=by
 unfold dy at h
 split at h<;>first
  |(split at h
    ·rename_i a;simp at h;subst h;simp[a]
    ·simp at h)
  |simp at h
theorem aO1{T:da}{c:Bool}{H0:Heap}{a b:AV}{r:Bool}{k:wv}(hk:dy P T c b=some k)(h:cU H0 k a=some r){l s:dg}(al:∀p∈dR H0 a,H[p.1]?=some p.2)(i:aA P w ad β H a l)(C:aA P w ad β H b s):
 (hn T l s).run P w=.ok r w/\((∃x,l=.bool x)\/(∃x,l=.agg x)\/(∃p n c,l=.slice p n c)\/(∃m,l=.map m)\/l=.nilFunc\/(∃f x y,l=.func f x y)\/(∃p,l=.pointer p)\/(l=.nilIface/\c=true))/\(∀u v,l=.agg u->s=.agg v->P.eqGuardType P.depth T=false):=by
 obtain⟨d,_,I⟩:=AO T l s;rw[I];rcases MO hk with⟨rfl,rfl,e,j⟩|⟨rfl,rfl,e,j⟩|⟨rfl,rfl,e,f,j⟩|⟨rfl,rfl,e,f,g,j⟩|⟨rfl,rfl,G,m,j⟩
 all_goals simp only[aA,aC]at C
 all_goals subst C
 ·cases a<;>simp only[cU]at h
  case p v=>
   cases v<;>simp only at h<;>simp at h
   all_goals subst h
   all_goals simp only[aA,aC]at i
   ·subst i;simp[hm,c8 j]
   ·obtain⟨_,_,_,_,_,_,rfl⟩:=i;simp[hm,c8 j]
  case ptr B path=>
   simp only[aA,bY,b7]at i;obtain⟨_,_,_,_,rfl,_⟩:=i
   split at h
   ·simp at h;subst h;simp[hm,c8 j]
   ·simp at h
  all_goals simp at h
 ·cases a<;>simp only[cU]at h
  case p v=>
   cases v
   case seq o=>
    cases o with
    |nil=>simp at h
    |cons e o=>
     simp at h;subst h;simp only[aA,aC]at i;rcases i with⟨J,_⟩|⟨_,_,_,_,_,_,_,_,_,_,_,rfl⟩
     ·cases J
     ·simp[hm,c8 j]
   all_goals simp only at h
   all_goals simp at h
   all_goals subst h
   all_goals simp only[aA,aC]at i
   ·subst i;simp[hm,c8 j]
   ·obtain⟨_,_,_,_,_,_,_,_,_,_,_,_,rfl⟩:=i;simp[hm,c8 j]
  case sl B ar ak off len=>
   simp only[aA,bY,b7]at i;simp only[dR]at al
   split at h
   case h_2=>simp at h
   rename_i A M L o t;rw[t]at al;have z:=al _ (ix.2 rfl)
   split at h
   case isFalse=>simp at h
   rename_i hc;obtain⟨rfl,rfl⟩:=hc;obtain⟨_,E,F⟩:=i.2 A o z
   by_cases q:dA A o
   ·rw[E q];have:r=true:=by simp at h;rw[<-h];simp[q.1,q.2]
    subst this;simp[hm,c8 j]
   ·rw[F q];have:r=false:=by
     simp at h;rw[<-h];unfold dA at q
     by_cases D:A.gr=true
     ·have K:o≠[]:=fun h=>q ⟨D,h⟩;simp[K]
     ·simp[D]
    subst this;simp[hm,c8 j]
  all_goals simp at h
 ·cases a<;>simp only[cU]at h
  case p v=>
   cases v<;>simp only at h<;>simp at h
   all_goals subst h
   all_goals simp only[aA,aC]at i
   ·subst i;simp[hm,c8 j]
   ·obtain⟨_,_,_,_,_,_,rfl⟩:=i;simp[hm,c8 j]
  case map B=>
   simp only[aA,bY,b7]at i;simp only[dR]at al
   split at h
   case h_2=>simp at h
   rename_i fz o t;rw[t]at al;have z:=al _ (ix.2 rfl);rw[i.2.1 ⟨_,z,trivial⟩];simp at h;subst h;simp[hm,c8 j]
  all_goals simp at h
 ·cases a<;>simp only[cU]at h
  case p v=>
   cases v<;>simp only at h<;>simp at h
   all_goals subst h
   all_goals simp only[aA,aC]at i
   ·obtain⟨_,_,_,_,rfl⟩:=i;simp[hm,c8 j]
   ·subst i;simp[hm,c8 j]
  case func f first ja=>
   simp only[aA]at i;obtain⟨_,_,_,_,rfl⟩:=i;simp at h;subst h;simp[hm,c8 j]
  all_goals simp at h
 ·cases a<;>simp only[cU]at h
  case p v=>
   cases v<;>simp only at h<;>simp at h
   all_goals subst h
   all_goals simp only[aA,aC]at i
   subst i;simp[hm,c8 j,G]
  all_goals simp at h
theorem aPb{i:dz}{T s:da}{x y:c9}{K:PV->Prop}{H0:Heap}(j:o.op= .binOp i T x y s)(h:lI P i T (nr y) H0 (ρ x) (ρ y) K):
 ∃v,K v/\bA P o ρ base {v:=.p v,al:=dR H0 (ρ x)}:=by
 unfold lI at h
 split at h
 ·rename_i k a C b hx g;exact aPf j hx g h.1 h.2 _
 ·rename_i a b hx g;exact aPk j hx g h _
 ·rename_i a b hx g;obtain⟨z,h⟩:=h;have m:=XP z;refine FN (r:=a==b) j ?_ ?_
  ·split at h
   ·exact .inl ⟨rfl,h⟩
   ·exact .inr ⟨rfl,h⟩
   ·exact h.elim
  ·intro H w ad ai β n q e al f c;rw[hx]at f;rw[g]at c;simp only[aA,aC]at f c;subst f;subst c;obtain⟨d,_,l⟩:=AO T (.bool a) (.bool b);rw[l];exact⟨by simp[hm,c8 m],.inl ⟨_,rfl⟩,fun u v m _=>by cases m⟩
 ·rename_i u fs u' t hx g;obtain⟨B,h⟩:=h;obtain⟨r,e,c⟩:∃r,eA P 9 T (.st u fs) (.st u' t)=some r/\(i=.eql/\K (.bool r)\/i=.neq/\K (.bool !r)):=by
   split at h
   ·rename_i r e;exact⟨r,e,.inl ⟨rfl,h⟩⟩
   ·rename_i r e;exact⟨r,e,.inr ⟨rfl,h⟩⟩
   ·exact h.elim
  refine FN (r:=r) j c ?_;intro H w ad ai β n q _ al f c;rw[hx]at f;rw[g]at c;simp only[aA]at f c;refine⟨?_,?_,fun u v _ _=>by simpa[lO]using B⟩
  ·obtain⟨d,A,l⟩:=AO T n q;rw[l];exact AW 9 T _ _ r e _ _ f c (d+1) A
  ·simp only[aC]at f;obtain⟨_,_,_,_,rfl⟩:=f;exact .inr (.inl ⟨_,rfl⟩)
 ·rename_i hx g
  split at h
  case h_2=>exact h.elim
  rename_i k hk;obtain⟨r,e,c⟩:∃r,cU H0 k (ρ x)=some r/\(i=.eql/\K (.bool r)\/i=.neq/\K (.bool !r)):=by
   split at h
   ·rename_i r e;exact⟨r,e,.inl ⟨rfl,h⟩⟩
   ·rename_i r e;exact⟨r,e,.inr ⟨rfl,h⟩⟩
   ·exact h.elim
  exact FN (r:=r) j c fun H w ad ai β n q _ al f c=>aO1 hk e al f c
end
section
variable{P:db}{w:dp}{ad ai:Nat->Prop}{β:Bd}{H:Heap}
variable{o:Oper}{ρ:c9->AV}{base:Nat}
theorem o9{c:c9->dg}:∀(l:List c9),(∀x∈l,aA P w ad β H (ρ x) (c x)/\aE (aL H) (ρ x))->bC P w ad β H (l.map ρ) (l.map c)/\aV (aL H) (l.map ρ)
 |[],_=>by simp[bC,aV]
 |x::l,h=>by
  have a:=h x s_;have b:=o9 l (fun y d=>h y (by simp[d]));simp only[hV,bC,aV];exact⟨⟨_,_,rfl,a.1,b.1⟩,a.2,b.2⟩
theorem AG{H0:Heap}:∀(l:List AV){j:List PV}{al aM:List (Nat×Obj)}{H:Heap}{ad:Nat->Prop}{vs:List dg},fY H0 l=some (j,al,aM)->cm P w ad β H ai->bC P w ad β H l vs->aV (aL H) l->
 (∀p∈al,∃f fz t,p.2=.box fz t/\H[p.1]?=some (.box f t))->∃aF,cj P ai ad w β H aF w β (ba H aM)/\bu P w aF j vs/\∀p∈aM,p.1<H0.length/\p.2≠.hole
 |[],j,al,aM,H,ad,vs,h,i,e,_,_=>by
  simp[fY]at h;obtain⟨rfl,rfl,rfl⟩:=h;simp only[bC]at e;exact⟨ad,cj.refl i,by simpa[bu]using e,s_⟩
 |a::l,j,al,aM,H,ad,vs,h,i,e,d,m=>by
  simp only[bC]at e;obtain⟨y,x,rfl,n,u⟩:=e;simp only[aV]at d;cases a with
  |p v=>
   simp only[fY]at h
   split at h
   case h_2=>simp at h
   rename_i G B E k;simp at h;obtain⟨rfl,rfl,rfl⟩:=h;obtain⟨aF,q1,o,q⟩:=AG l k i u d.2 m;simp only[aA]at n;exact⟨aF,q1,by simp only[bu];exact⟨y,x,rfl,aC.mono q1.cd (fun _ _=>rfl) _ _ n,o⟩,q⟩
  |ptr b path=>
   cases path with
   |cons _ _=>simp[fY]at h
   |nil=>
    simp only[fY]at h
    split at h
    case h_2=>simp at h
    rename_i fz t G B E C k;simp at h;obtain⟨rfl,rfl,rfl⟩:=h;obtain⟨f,J,K,e1,e2⟩:=m (b,.box fz (.p t)) s_;cases e1;have D:lY H (.ptr b [])=some (.cG t,H.set b (.box true (.p t))):=by
     simp only at e2;simp[lY,e2,l6]
    obtain⟨I,g,F⟩:=ND D i n d.1;have A:b<H.length:=(hR.1 e2).1;obtain⟨z,q1,o,q⟩:=AG l k g.rel (bC.mono g.cd (fun _ _=>rfl) g.step _ _ d.2 u) (aV.mono g.gh _ d.2) (by
     intro p c;obtain⟨f2,r,t2,g1,g2⟩:=m p (by simp[c])
     by_cases s:b=p.1
     ·rw[<-s]at g2⊢;simp only at e2;rw[e2]at g2;cases g2;exact⟨true,r,_,g1,by rw[hS A]⟩
     ·exact⟨f2,r,t2,g1,by rw[h3 s];exact g2⟩)
    refine⟨z,by simpa only[ba]using g.trans q1,?_,?_⟩
    ·simp only[bu];exact⟨y,x,rfl,aC.mono q1.cd (fun _ _=>rfl) _ _ F,o⟩
    ·intro p c;rcases hX.1 c with rfl|c
     ·exact⟨(hR.1 C).1,s_⟩
     ·exact q p c
  |_=>simp[fY]at h
theorem YR{f:dl}{fi ca:Array c9}(E:o.op= .makeFunc (.func f) fi ca):
 (∀a b,fj (fi.toList.map ρ)=some a->fj (ca.toList.map ρ)=some b->bA P o ρ base {v:=.p (.func f a b)})/\
 bA P o ρ base {v:=.func f (fi.toList.map ρ) (ca.toList.map ρ)}/\
 (∀(H0:Heap) a b al aM,fY H0 (fi.toList.map ρ)=some (a,[],[])->fY H0 (ca.toList.map ρ)=some (b,al,aM)->bA P o ρ base {v:=.p (.func f a b),al,aM}/\(∀p∈al,H0[p.1]?=some p.2)/\(∀p∈aM,p.1<H0.length/\p.2≠.hole)):=by
 have g:∀x,x∈fi.toList\/x∈ca.toList->x∈o.op.operands:=by
  intro x hx;rw[E];simp only[hj,Array.mem_append];simpa using hx
 have u:∀(c:c9->dg)(w:dp),(dk c o).run P w=.ok (.value (.func (.func f) (fi.toList.map c).toArray (ca.toList.map c).toArray)) w:=by
  intro c w;simp only[dk,E];refine eX ?_;have j:(fi.toList.map c).toArray=fi.map c:=by apply b3;simp
  have k:(ca.toList.map c).toArray=ca.map c:=by apply b3;simp
  rw[j,k];simp[Instr.makeFunc]
 refine⟨?_,?_,?_⟩
 ·intro a b s m;refine bA.same fun H w ad ai β c z e _=>⟨_,u c w,?_,by simp[aE]⟩
  obtain⟨j,_⟩:=o9 fi.toList (fun x hx=>e x (g x (.inl hx)));obtain⟨k,_⟩:=o9 ca.toList (fun x hx=>e x (g x (.inr hx)));rw[mQ s]at j;rw[mQ m]at k;simp only[aA,aC];exact⟨_,_,ki.1 j,ki.1 k,rfl⟩
 ·refine bA.same fun H w ad ai β c z e _=>⟨_,u c w,?_,?_⟩
  ·simp only[aA];exact⟨_,_,(o9 fi.toList (fun x hx=>e x (g x (.inl hx)))).1,(o9 ca.toList (fun x hx=>e x (g x (.inr hx)))).1,rfl⟩
  ·simp only[aE];exact⟨(o9 fi.toList (fun x hx=>e x (g x (.inl hx)))).2,(o9 ca.toList (fun x hx=>e x (g x (.inr hx)))).2⟩
 ·intro H0 a b al aM s m;have D:∀p∈al,H0[p.1]?=some p.2/\∃fz t,p.2=.box fz t:=by
   have:∀(l:List AV)(b:List PV)(al aM:List (Nat×Obj)),fY H0 l=some (b,al,aM)->∀p∈al,H0[p.1]?=some p.2/\∃fz t,p.2=.box fz t:=by
    intro l
    induction l with
    |nil=>intro b al aM h;simp[fY]at h;obtain⟨rfl,rfl,rfl⟩:=h;simp
    |cons x l q=>
     intro b al aM h;cases x with
     |p v=>
      simp only[fY]at h
      split at h
      case h_2=>simp at h
      rename_i B n A i;simp at h;obtain⟨rfl,rfl,rfl⟩:=h;exact q _ _ _ i
     |ptr J path=>
      cases path with
      |cons _ _=>simp[fY]at h
      |nil=>
       simp only[fY]at h
       split at h
       case h_2=>simp at h
       rename_i fz t B n A y i;simp at h;obtain⟨rfl,rfl,rfl⟩:=h;intro p d;rcases hX.1 d with rfl|d
       ·exact⟨y,_,_,rfl⟩
       ·exact q _ _ _ i p d
     |_=>simp[fY]at h
   exact this _ _ _ _ m
  have K:∀p∈aM,p.1<H0.length/\p.2≠.hole:=by
   have:∀(l:List AV)(b:List PV)(al aM:List (Nat×Obj)),fY H0 l=some (b,al,aM)->∀p∈aM,p.1<H0.length/\p.2≠.hole:=by
    intro l
    induction l with
    |nil=>intro b al aM h;simp[fY]at h;obtain⟨rfl,rfl,rfl⟩:=h;simp
    |cons x l q=>
     intro b al aM h;cases x with
     |p v=>
      simp only[fY]at h
      split at h
      case h_2=>simp at h
      rename_i B n A i;simp at h;obtain⟨rfl,rfl,rfl⟩:=h;exact q _ _ _ i
     |ptr J path=>
      cases path with
      |cons _ _=>simp[fY]at h
      |nil=>
       simp only[fY]at h
       split at h
       case h_2=>simp at h
       rename_i fz t B n A y i;simp at h;obtain⟨rfl,rfl,rfl⟩:=h;intro p d;rcases hX.1 d with rfl|d
       ·exact⟨(hR.1 y).1,s_⟩
       ·exact q _ _ _ i p d
     |_=>simp[fY]at h
   exact this _ _ _ _ m
  refine⟨?_,fun p d=>(D p d).1,K⟩;intro H w ad ai β c z e n _;obtain⟨j,N⟩:=o9 fi.toList (fun x hx=>e x (g x (.inl hx)));obtain⟨k,G⟩:=o9 ca.toList (fun x hx=>e x (g x (.inr hx)));obtain⟨O,r,L,_⟩:=AG _ s z j N s_;simp only[ba]at r;obtain⟨I,q1,M,_⟩:=AG _ m r.rel (bC.mono r.cd (fun _ _=>rfl) r.step _ _ G k) G (by
   intro p d;obtain⟨_,fz,t,F⟩:=D p d;have C:=n p d;rw[F]at C;exact⟨fz,fz,t,F,C⟩)
  simp only[newAt,hW];refine⟨_,_,w,β,I,u c w,.inl rfl,r.trans q1,?_,by simp[aE]⟩;simp only[aA,aC];exact⟨_,_,bu.mono q1.cd (fun _ _=>rfl) _ _ L,M,rfl⟩
theorem DQ{x:c9}(d:o.op=.nilCheck x)(h:(∃b p,ρ x=.ptr b p)\/(∃b v e i p,ρ x=.ct b v e i p)\/∃t,ρ x=.p (.cG t)):bA P o ρ base {v:=ρ x}:=by
 refine bA.same fun H w ad ai β f l k al=>?_;have c:=k x (by simp[d,hj]);refine⟨f x,?_,c⟩;have j:∃a,f x=.pointer (some a):=by
  rcases h with⟨b,p,hx⟩|⟨b,v,e,i,p,hx⟩|⟨t,hx⟩
  ·have c:=c.1;rw[hx]at c;simp only[aA,bY,b7]at c;obtain⟨_,_,_,_,h,_⟩:=c;exact⟨_,h⟩
  ·have c:=c.1;rw[hx]at c;simp only[aA,bY,b7]at c;obtain⟨_,_,_,_,h,_⟩:=c;exact⟨_,h⟩
  ·have c:=c.1;rw[hx]at c;simp only[aA,aC]at c;obtain⟨_,_,_,_,_,_,h⟩:=c;exact⟨_,h⟩
 obtain⟨a,g⟩:=j;simp[dk,d,g]
end
section
variable{P:db}{w:dp}{ad ai:Nat->Prop}{β:Bd}{H:Heap}
variable{o:Oper}{ρ:c9->AV}{base:Nat}
open Go.MapKept
def lH:PV->Prop
 | .st _ _=>False
 |_=>True
theorem FC{T:da}{key:PV}(h:lH key)(k:PV):rD P T key k=lP key k:=by
 cases key<;>first
  |exact h.elim
  |rfl
theorem XY{T:da}{key:PV}(h:lH key)(a:List (PV×PV)):mV P T a key=gI P T a key:=by
 cases key<;>first
  |exact h.elim
  |rfl
theorem Aj{T:da}{key:PV}{b:dg}(h:fI P T key=true)(hl:lH key)(a:aC P w ad key b):∃d,P.underlying T=some d/\IsKey d b:=by
 unfold fI at h
 split at h
 ·split at h
  ·rename_i c;simp at h;subst h;simp only[aC]at a;subst a;exact⟨_,c,by simp[IsKey]⟩
  ·simp at h
 ·simp only[aC]at a;obtain⟨bs,rfl,_⟩:=a;exact⟨_,Ab h,by simp[IsKey]⟩
 ·exact hl.elim
 ·simp at h
theorem BI{T:da}{d:e7}(j:P.underlying T=some d){key g:PV}{i v':dg}{r:Bool}(h:fI P T key=true)(hl:lH key)(c:lP key g=some r)(e:aC P w ad key i)(f:aC P w ad g v'):
 hd d i v'=some r/\(r=true->i=v'):=by
 unfold fI at h
 split at h
 ·split at h
  ·rename_i k;simp at h;subst h;rw[j]at k;cases k;cases g<;>simp only[lP]at c<;>try (simp at c;done)
   split at c
   ·rename_i hk;subst hk;simp at c;subst c;simp only[aC]at e f;subst e;subst f;simp[hd]
   ·simp at c
  ·simp at h
 ·rename_i hs;have:=Ab h;rw[j]at this;cases this;cases g<;>simp only[lP]at c<;>try (simp at c;done)
  simp at c;subst c;simp only[aC]at e f;obtain⟨a,rfl,e1⟩:=e;obtain⟨b,rfl,e2⟩:=f;subst e1;subst e2;have n:(j6 (fun x:UInt8=>x.toNat) a.data.toList=j6 (fun x:UInt8=>x.toNat) b.data.toList)↔a=b:=by
   constructor
   ·intro h;have:=DK h;apply ByteArray.ext;apply b3;exact this
   ·intro h;rw[h]
  by_cases hc:a=b
  ·subst hc;simp[hd,hh]
  ·have l:¬(j6 (fun x:UInt8=>x.toNat) a.data.toList=j6 (fun x:UInt8=>x.toNat) b.data.toList):=fun h=>hc (n.1 h);have m:(a==b)=false:=by
    cases o:(a==b)with
    |false=>rfl
    |true=>exact(hc ((hh a b).1 o)).elim
   simp[hd,l,m]
 ·exact hl.elim
 ·simp at h
theorem EY{T:da}{d:e7}(o:P.underlying T=some d){key:PV}{g:dg}(hk:fI P T key=true)(m:lH key)(l:aC P w ad key g):∀(b:List (PV×PV))(a:List dq)(i:Nat)(r:Option PV),cR P w ad b a->gI P T b key=some r->
 (r=none/\gy d g a i=some none)\/∃v j e,r=some v/\gy d g a i=some (some (i+j,e.val))/\a[j]?=some e/\aC P w ad v e.val/\e.key=g/\
  (∀(x:PV)(k:dg),aC P w ad x k->cR P w ad (iq b key x) (a.modify j fun e=>{e with key:=g,val:=k}))
 |[],a,i,r,f,h=>by
  simp only[cR]at f;simp[gI]at h;subst f;subst h;exact .inl ⟨rfl,rfl⟩
 |(s,v')::b,a,i,r,f,h=>by
  simp only[cR]at f;obtain⟨e,rest,rfl,n,p,q⟩:=f;simp only[gI,FC m]at h
  split at h
  ·rename_i c;simp at h;subst h;obtain⟨g1,g2⟩:=BI o hk m c l n;refine .inr ⟨v',0,e,rfl,by simp[gy,g1],rfl,p,(g2 rfl).symm,fun x k hx=>?_⟩;simp only[iq,c,if_true];simp only[cR];exact⟨_,rest,rfl,l,hx,q⟩
  ·rename_i c;obtain⟨g1,g2⟩:=BI o hk m c l n;rcases EY o hk m l b rest (i+1) r q h with⟨rfl,f1⟩|⟨v,j,e',rfl,f1,f2,f3,f4,f5⟩
   ·exact .inl ⟨rfl,by simp[gy,g1,f1]⟩
   ·refine .inr ⟨v,j+1,e',rfl,by simp[gy,g1,f1];omega,by simpa using f2,f3,f4,fun x k hx=>?_⟩;simp only[iq,c];rw[if_neg s_];simp only[cR];exact⟨e,_,by simp[List.modify_succ_cons],n,p,f5 x k hx⟩
  ·simp at h
theorem L9{X:Array dg}{u:da->PV->PV->Option Bool}(e:Bool)(n:Nat):
 ∀(fs:List en)(l:List Nat)(b:List PV)(r:Bool)(pre:List dg)(j:List (List dg)),gv P u (fs.map (·.type)) b b=some r->(∀f∈fs,f.name≠ "_" /\uZ P f.type=true)->
 (∀(i:Nat)(f:en),fs[i]?=some f->f.offset=pre.length+(l.take i).sum)->bm P w ad l b j->
 X.toList=pre++j.flatten->(forIn fs lt (fun f _=>if f.name≠ "_" then(do
  let x<-part f.type X f.offset
  gP e (n+1) f.type x
  pure (ForInStep.yield lt))else pure (ForInStep.yield lt):en->PUnit->Sem (ForInStep PUnit))).run P w=.ok lt w
 |[],l,b,r,pre,j,_,_,_,_,_=>by simp
 |f::fs,l,b,r,pre,j,d,q,s,hx,p=>by
  cases b with
  |nil=>simp[gv]at d
  |cons a b=>
   cases l with
   |nil=>simp[bm]at hx
   |cons m l=>
    simp only[hV,gv]at d
    split at d
    case isFalse=>simp at d
    rename_i hk
    split at d
    case h_2=>simp at d
    rename_i G D F v;obtain⟨c,cs,rfl,hc,y,C⟩:=x9 hx;obtain⟨A,o⟩:=q f s_;have B:f.offset=pre.length:=by simpa using s 0 f s_
    obtain⟨x,t,H⟩:=sT hk.1 hc (pre:=pre) (post:=cs.flatten) (cs:=X) (by rw[p];simp);rw[<-B]at t;have ck:(gP e (n+1) f.type x).run P w=.ok () w:=by
     unfold uZ at o;unfold gP
     split at o
     ·rename_i k h;simp[c8 h]
     ·rename_i h;simp[c8 h]
     ·rename_i h;simp[c8 h]
     ·cases o
    have E:=L9 e n fs l b D (pre++c) cs v (fun f hf=>q f (by simp[hf])) (by
     intro i g z;have:=s (i+1) g (by simpa using z);rw[this,j7,kd,hT,y];omega) C (by rw[p];simp)
    rw[List.forIn_cons];simp only[A,ne_eq,not_false_eq_true,if_true,hF,t,ck,hD,hG];exact E
theorem Xs{T:da}{cS:Array en}{u:Nat}{fs:List PV}{g:dg}(b:P.underlying T=some (.struct cS))(j:cS.toList.all (fun f=>f.name != "_" &&uZ P f.type)=true)(a:(eA P 9 T (.st u fs) (.st u fs)).isSome=true)(d:aC P w ad (.st u fs) g)(e:Bool):
 (gP e 10000 T g).run P w=.ok () w:=by
 obtain⟨r,a⟩:=li.1 a;unfold eA at a;simp only[b]at a
 split at a
 case isFalse=>simp at a
 rename_i hc;obtain⟨hk,-,-,-⟩:=hc;simp only[aC]at d;obtain⟨l,c,k1,k2,rfl⟩:=d;obtain⟨o,p,s1,s2,q,h,s,k⟩:=xl (P:=P) (T:=T) (u:=u) (n:=cS.size) (by unfold fZ;rw[hk,b]);rw[b]at s1;cases s1;rw[k1]at h;cases h;have key:=L9 (w:=w) (ad:=ad) (X:=c.flatten.toArray) e 9998 cS.toList l fs r [] c a (fun f hf=>by
  have:=h8.1 j f hf;simpa using this) (by
   intro i f hf;have hi:i<cS.size:=by
    have:=(hR.1 hf).1;simpa using this
   obtain⟨m,g1,g2,_⟩:=k i hi;rw[b4,g1]at hf;cases hf;simpa using g2) k2 s_
 unfold gP;simp only[hF,c8 b,hD];rw[<-Array.forIn_toList];rw[key];simp
theorem Ev{T:da}{u:Nat}{fs:List PV}{g:dg}(p:aC P w ad (.st u fs) g):∀(k:List (PV×PV))(f:List dq)(i:Nat)(r:Option PV),cR P w ad k f->gI P T k (.st u fs)=some r->
 (r=none/\(gN T g f i).run P w=.ok none w/\∀x n born,aC P w ad x n->cR P w ad (iq k (.st u fs) x) (f++[{key:=g,val:=n,born}]))\/∃(v:PV)(j:Nat)(e:dq),r=some v/\(gN T g f i).run P w=.ok (some (i+j,e.val)) w/\aC P w ad v e.val
 |[],f,i,r,m,h=>by
  simp only[cR]at m;simp[gI]at h;subst m;subst h;refine .inl ⟨rfl,by simp[gN],fun x n born hx=>?_⟩;simp only[iq,cR];exact⟨_,[],rfl,p,hx,rfl⟩
 |(y,v')::k,f,i,r,m,h=>by
  simp only[cR]at m;obtain⟨e,rest,rfl,s,t,z⟩:=m;simp only[gI]at h;have q:∀b,rD P T (.st u fs) y=some b->(hn T g e.key).run P w=.ok b w/\lP (.st u fs) y=some b:=by
   intro b l;simp only[rD]at l
   split at l
   ·rename_i a c A hc;cases a<;>cases c<;>simp at l<;>subst l<;>
    ·obtain⟨d,B,hq⟩:=AO T g e.key;rw[hq];exact⟨AW 9 T _ _ _ A _ _ p s _ B,hc⟩
   ·simp at l
  split at h
  ·rename_i o;simp at h;subst h;obtain⟨g1,g2⟩:=q _ o;exact .inr ⟨v',0,e,rfl,by simp[gN,g1],t⟩
  ·rename_i o;obtain⟨g1,g2⟩:=q _ o;rcases Ev p k rest (i+1) r z h with⟨rfl,f1,f2⟩|⟨v,j,e',rfl,f1,f3⟩
   ·refine .inl ⟨rfl,by simp[gN,g1,f1],fun x n born hx=>?_⟩;simp only[iq,g2];rw[if_neg s_];simp only[cR];exact⟨e,_,rfl,s,t,f2 x n born hx⟩
   ·refine .inr ⟨v,j+1,e',rfl,?_,f3⟩;simp[gN,g1,f1];omega
  ·simp at h
theorem EZ{T:da}{cS:Array en}(c:P.underlying T=some (.struct cS)){b:dg}{a:List dq}{f:Option (Nat×dg)}(h:(gN T b a 0).run P w=.ok f w):(g7 T b a).run P w=.ok f w:=by
 unfold g7;simp only[hF,c8 c,hD];cases a with
 |nil=>
  simp only[gy];simpa[gN]using h
 |cons e es=>
  have:gy (.struct cS) b (e::es) 0=none:=by simp[gy,hd]
  rw[this];exact h
theorem D5{T:da}{key:PV}(h:fI P T key=true)(hl:¬lH key):∃u fs cS,key= .st u fs/\P.underlying T=some (.struct cS)/\cS.toList.all (fun f=>f.name != "_" &&uZ P f.type)=true/\(eA P 9 T (.st u fs) (.st u fs)).isSome=true:=by
 cases key<;>first
  |exact(hl trivial).elim
  |skip
 rename_i u fs;simp only[fI]at h
 split at h
 ·rename_i cS a;rw[cy]at h;exact⟨u,fs,cS,rfl,a,h.1,h.2⟩
 ·cases h
theorem Pf{T:da}{key:PV}{g:dg}(hk:fI P T key=true)(f:aC P w ad key g){b:List (PV×PV)}{a:List dq}{r:Option PV}(k:cR P w ad b a)(h:gI P T b key=some r):
 (∀e,(gP e 10000 T g).run P w=.ok () w)/\
 ((r=none/\(g7 T g a).run P w=.ok none w)\/∃(v:PV)(j:Nat)(e:dq),r=some v/\(g7 T g a).run P w=.ok (some (j,e.val)) w/\aC P w ad v e.val):=by
 by_cases hl:lH key
 ·obtain⟨d,c,n⟩:=Aj hk hl f;refine⟨fun e=>run_checkKey c n _ 9999,?_⟩;rcases EY c hk hl f b a 0 r k h with⟨rfl,f1⟩|⟨v,j,e,rfl,f1,f2,f3,f4,_⟩
  ·exact .inl ⟨rfl,run_findKey c f1⟩
  ·exact .inr ⟨v,0+j,e,rfl,run_findKey c f1,f3⟩
 ·obtain⟨u,fs,cS,rfl,i,l,m⟩:=D5 hk hl;refine⟨fun e=>Xs i l m f e,?_⟩;rcases Ev f b a 0 r k h with⟨rfl,f1,_⟩|⟨v,j,e,rfl,f1,f3⟩
  ·exact .inl ⟨rfl,EZ i f1⟩
  ·exact .inr ⟨v,0+j,e,rfl,EZ i f1,f3⟩
theorem LZ{T:da}{key x:PV}{g i:dg}(d:aC P w ad key g)(hx:aC P w ad x i)(born:Nat):∀(a:List (PV×PV))(c:List dq),lH key->cR P w ad a c->gI P T a key=some none->cR P w ad (iq a key x) (c++[{key:=g,val:=i,born}])
 |[],c,_,b,_=>by
  simp only[cR]at b;subst b;simp only[iq,cR];exact⟨_,[],rfl,d,hx,rfl⟩
 |(n,v')::a,c,f,b,h=>by
  simp only[cR]at b;obtain⟨e,rest,rfl,j,k,l⟩:=b;simp only[gI,FC f]at h
  split at h
  ·simp at h
  ·rename_i m;simp only[iq,m];rw[if_neg s_];simp only[cR];exact⟨e,_,rfl,j,k,LZ (T:=T) d hx born a rest f l h⟩
  ·simp at h
def vz(ok:Bool)(z:PV):Option PV->PV
 |some v=>if ok then .aD [v,.bool true]else v
 |none=>if ok then .aD [z,.bool false]else z
theorem Zj{T:da}{c E:da}{x i:c9}{ok:Bool}{key z:PV}{r:Option PV}{k:List (PV×PV)}(C:o.op= .lookup T x i ok)(g:jS P T=some (c,E))(F:cO P E=some z)(hk:fI P c key=true)(hl:gI P c k key=some r)
 {ρc:c9->dg}(B:aC P w ad key (ρc i))(hx:(ρc x=.map none/\k=[])\/∃b a d,ρc x=.map (some b)/\w.heap[b]?=some (.map a d)/\cR P w ad k a.toList):
 ∃p,(dk ρc o).run P w=.ok (.value p) w/\aC P w ad (vz ok z r) p:=by
 have m:P.underlying T=some (.map c E):=by
  unfold jS at g
  split at g
  ·rename_i D;simp at g;rw[D,g.1,g.2]
  ·simp at g
 obtain⟨u,t,z2⟩:=PD F;obtain⟨a,s,n⟩:∃a:Array dq,((ρc x=.map none/\a=#[])\/∃b d,ρc x=.map (some b)/\w.heap[b]?=some (.map a d))/\cR P w ad k a.toList:=by
  rcases hx with⟨hx,rfl⟩|⟨b,a,d,hx,h,n⟩
  ·exact⟨#[],.inl ⟨hx,rfl⟩,by simp[cR]⟩
  ·exact⟨a,.inr ⟨b,d,hx,h⟩,n⟩
 obtain⟨l,y⟩:=Pf hk B n hl
 have q:∀(f:Option (Nat×dg))(v:dg)(b:Bool),(g7 c (ρc i) a.toList).run P w= .ok f w->(f=none/\v=u/\b=false\/∃j,f=some (j,v)/\b=true)->
  (dk ρc o).run P w=.ok (.value (if ok then .tuple #[v,.bool b]else v)) w:=by
  intro f v b hf A;simp only[dk,C];refine eX ?_;rcases A with⟨rfl,rfl,rfl⟩|⟨j,rfl,rfl⟩
  ·rcases s with⟨hx,rfl⟩|⟨b,d,hx,h⟩
   ·have hf:(g7 c (ρc i) []).run P w=.ok none w:=hf;cases ok<;>simp[ha,c8 m,hx,l,hf,t]
   ·cases ok<;>simp[ha,c8 m,hx,hg h,l,hf,t]
  ·rcases s with⟨hx,rfl⟩|⟨b,d,hx,h⟩
   ·have hf:(g7 c (ρc i) []).run P w=.ok (some (j,v)) w:=hf;cases ok<;>simp[ha,c8 m,hx,l,hf]
   ·cases ok<;>simp[ha,c8 m,hx,hg h,l,hf]
 rcases y with⟨rfl,f1⟩|⟨v,j,e,rfl,f1,f3⟩
 ·refine⟨_,q none u false f1 (.inl ⟨rfl,rfl,rfl⟩),?_⟩;cases ok with
  |true=>simp only[vz,if_true,aC,bu];exact⟨_,⟨_,_,rfl,z2 w ad,_,_,rfl,rfl,rfl⟩,rfl⟩
  |false=>simpa[vz]using z2 w ad
 ·refine⟨_,q _ e.val true f1 (.inr ⟨_,rfl,rfl⟩),?_⟩;cases ok with
  |true=>simp only[vz,if_true,aC,bu];exact⟨_,⟨_,_,rfl,f3,_,_,rfl,rfl,rfl⟩,rfl⟩
  |false=>simpa[vz]using f3
theorem xB{T:da}{c E:da}{x g:c9}{ok:Bool}{key z:PV}{r:Option PV}{es:List (PV×PV)}{al:List (Nat×Obj)}(f:o.op= .lookup T x g ok)(n:jS P T=some (c,E))(t:cO P E=some z)(hi:ρ g= .p key)(hk:fI P c key=true)(hl:gI P c es key=some r)
 (hx:(ρ x=.p .fM/\es=[])\/ρ x=.p (.fu es)\/∃b fz,ρ x=.map b/\(b,.map fz es)∈al):
 bA P o ρ base {v:=.p (vz ok z r),al}:=by
 refine bA.same fun H w ad ai β u s i al=>?_;have a:=(i x (by simp[f,hj])).1;have e:=(i g (by simp[f,hj])).1;rw[hi]at e;simp only[aA]at e;obtain⟨j,c1,c2⟩:=Zj f n t hk hl (ρc:=u) (w:=w) (ad:=ad) e (by
  rcases hx with⟨hx,rfl⟩|hx|⟨b,fz,hx,q⟩
  ·rw[hx]at a;simp only[aA,aC]at a;exact .inl ⟨a,rfl⟩
  ·rw[hx]at a;simp only[aA,aC]at a;obtain⟨b,d,clock,_,k,l,m⟩:=a;exact .inr ⟨b,d,clock,m,k,l⟩
  ·rw[hx]at a;simp only[aA,bY,b7]at a;have h:=al _ q;obtain⟨d,clock,k1,k2,_⟩:=s.cX b _ h;exact .inr ⟨_,d,clock,a.2.1 ⟨_,h,trivial⟩,k1,k2⟩)
 exact⟨j,c1,by simpa only[aA]using c2,by simp[aE]⟩
theorem Zc{T:da}(e:o.op=.makeMap T none):bA P o ρ base {v:=.map base,aX:=[.map false []]}:=by
 intro H w ad ai β i b j _ d;have a:H[base]?=some .hole:=by simpa using d 0 s_
 have g:(dk i o).run P w=.ok (.value (.map (some w.heap.size))) {w with heap:=w.heap.push (.map #[] 0)}:=by
  simp only[dk,e];exact xg (by simp[Instr.makeMap])
 have f:=uM (cap:=0) b a (ob:=.map #[] 0) (o':=.map false [])
  ⟨#[],0,by simp[Bd.at],by simp[cR],by
   simp only[cQ,Bd.at,if_true,c7,if_false];exact⟨fun h=>ko _ (b.cd _ h),fun h=>ko _ (b.fe _ h)⟩⟩ trivial
 refine⟨_,_,_,_,ad,g,.inl rfl,f,?_,?_⟩
 ·simp only[aA,bY,b7,mH];exact⟨rfl,fun _=>by simp[Bd.at],fun⟨L,c⟩=>by rw[hS (hR.1 a).1]at c;cases c⟩
 ·simp only[aE,mH];exact⟨_,hS (hR.1 a).1,trivial⟩
theorem Fs(f:cm P w ad β H ai){b:Nat}{o o':Obj}(a:H[b]?=some o)(hl:o.live)(i:o'.live)(m:∀v,o.has v->o'.has v)(j:∀L,o≠ .loop L){ob:Go.Obj}
 (_hb:β.aq b<w.heap.size)(e:¬ad (β.aq b)/\¬ai (β.aq b))(aN:cM β H β (H.set b o'))
 (n:fH P {w with heap:=w.heap.setIfInBounds (β.aq b) ob} ad β (H.set b o') ai b o')(p:o'.refs (aL (H.set b o'))):
 cj P ai ad w β H ad {w with heap:=w.heap.setIfInBounds (β.aq b) ob} β (H.set b o'):=by
 refine cj.set f (hR.1 a).1 (fun _ _=>⟨rfl,rfl⟩) (fun _ x=>x) (fun _ x=>.inl x) (fun k hk=>by simpa using f.cd k hk) s_
  (fun k hk _=>?_) (fun _=>.inr ⟨rfl,⟨o,a,hl⟩,.inr e.1,e.2⟩) aN n p (fun q v c g=>by rw[a]at c;cases c;exact m v g) (fun L d=>by rw[a]at d;cases d;exact(j L rfl).elim)
 have l:k≠β.aq b:=hk.resolve_right (fun h=>h i);simp[le l]
theorem Lz{T s E:da}{m k x:c9}{b:Nat}{key v:PV}{a:List (PV×PV)}{r:Option PV}(f:o.op= .mapUpdate T m k x\/o.op= .insert T m k x)(y:jS P T=some (s,E))(aa:ρ m= .map b)(hk:ρ k= .p key)(hx:ρ x= .p v)
 (hf:fI P s key=true)(hl:mV P s a key=some r):bA P o ρ base {v:=.p (.aD []),al:=[(b,.map false a)],aM:=[(b,.map false (iq a key v))]}:=by
 have M:P.underlying T=some (.map s E):=by
  unfold jS at y
  split at y
  ·rename_i N;simp at y;rw[N,y.1,y.2]
  ·simp at y
 intro H w ad ai β c S O al _;have F:H[b]?=some (.map false a):=by simpa using al
 have L:m∈o.op.operands/\k∈o.op.operands/\x∈o.op.operands:=by
  rcases f with f|f<;>simp[f,hj]
 have i:=(O m L.1).1;have l:=(O k L.2.1).1;have A:=(O x L.2.2).1;rw[aa]at i;rw[hk]at l;rw[hx]at A;simp only[aA,bY,b7]at i l A;have i:=i.2.1 ⟨_,F,trivial⟩;obtain⟨g,clock,k1,k2,k3⟩:=S.cX b _ F;have R:¬ad (β.aq b)/\¬ai (β.aq b):=by
  unfold cQ at k3;rw[if_neg s_]at k3;exact k3
 have D:gI P s a key=some r:=by
  by_cases q:lH key
  ·rw[<-XY q];exact hl
  ·obtain⟨u,fs,cS,rfl,_⟩:=D5 hf q;simp only[mV]at hl
   split at hl
   ·rename_i hq;rw[hq];exact hl
   ·cases hl
 have J:=(Pf hf l k2 D).1 false;have Q:β.aq b<w.heap.size:=(b1.1 k1).1;have aN:cM β H β (H.set b (.map false (iq a key v))):=qw F (.inr (.inr (.inl ⟨_,_,_,_,rfl,rfl⟩)))
 have I:∀(t:Array dq)(z:Nat),(g8 T (c m) (c k) (c x)).run P w= .ok () {w with heap:=w.heap.setIfInBounds (β.aq b) (.map t z)}->cR P w ad (iq a key v) t.toList->
  ∃n G w' aO aF,(dk c o).run P w=.ok n w'/\(n=.value G\/n=.skip/\G=undef)/\
  cj P ai ad w β H aF w' aO (ba H ([(b,.map false (iq a key v))]++newAt base []))/\aA P w' aF aO (ba H ([(b,.map false (iq a key v))]++newAt base [])) (.p (.aD [])) G/\
  aE (aL (ba H ([(b,.map false (iq a key v))]++newAt base []))) (.p (.aD [])):=by
  intro t z ae ab;have W:(dk c o).run P w=.ok .skip {w with heap:=w.heap.setIfInBounds (β.aq b) (.map t z)}:=by
   rcases f with f|f<;>simp[dk,f,ae]
  have af:∀C,ad C->({w with heap:=w.heap.setIfInBounds (β.aq b) (.map t z)}:dp).heap[C]?=w.heap[C]?:=by
   intro C Z;have:β.aq b≠C:=fun V=>R.1 (V▸Z);simp[this]
  refine⟨_,_,_,β,ad,W,.inr ⟨rfl,rfl⟩,?_,by simp[aA,aC,bu,undef],by simp[aE]⟩;simp only[newAt,hW,ba];exact Fs (o':=.map false (iq a key v)) S F trivial trivial (fun _ h=>h) (fun _ h=>by cases h) Q R aN ⟨t,z,by simp[Q],cR.mono (fun _ x=>x) af _ _ ab,k3⟩ trivial
 by_cases q:lH key
 case neg=>
  obtain⟨u,fs,cS,rfl,N,_,_⟩:=D5 hf q;have ac:r=none:=by
   simp only[mV]at hl
   split at hl
   ·simpa using hl.symm
   ·cases hl
  subst ac;rcases Ev l a g.toList 0 none k2 D with⟨_,f1,f2⟩|⟨v',j,e,U,_⟩
  ·have B:=EZ N f1;refine I (g.push {key:=c k,val:=c x,born:=clock}) (clock+1) ?_ ?_
   ·rw[i];simp only[g8,hF,c8 M,hD,hg k1,J,B,run_setObj_map _ k1]
   ·rw[cc];exact f2 v (c x) clock A
  ·cases U
 obtain⟨d,K,X⟩:=Aj hf q l;rcases EY K hf q l a g.toList 0 r k2 D with⟨rfl,f1⟩|⟨v',j,e,rfl,f1,f2,f3,f4,f5⟩
 ·have B:=run_findKey (w:=w) K f1;refine I (g.push {key:=c k,val:=c x,born:=clock}) (clock+1) ?_ ?_
  ·rw[i];simp only[g8,hF,c8 M,hD,hg k1,J,B,run_setObj_map _ k1]
  ·rw[cc];exact LZ (T:=s) l A clock a g.toList q k2 D
 ·have B:=run_findKey (w:=w) K f1;have Y:g[j]?=some e:=by simpa using f2
  refine I (g.modify j fun e=>{e with key:=c k,val:=c x}) clock ?_ ?_
  ·rw[i];simp only[g8,hF,c8 M,hD,hg k1,J,B];simp only[kw,Y,lm,ll,f4,run_keyThatStays X,hD,run_setObj_map _ k1]
  ·rw[Array.toList_modify];exact f5 v (c x) A
theorem zD{v:PV}:oK v=true->lH v:=by
 cases v<;>simp[oK,lH]
theorem Ww{b:Nat}{o o':Obj}(e:H[b]?=some o)(i:o.wT)(d:o'.wT):cM β H β (H.set b o'):=by
 have g:b<H.length:=(hR.1 e).1;have a:∀x,x≠b->(H.set b o')[x]?=H[x]?:=fun x hx=>h3 (le hx);have c:(H.set b o')[b]?=some o':=hS g;refine⟨?_,?_,?_,?_,?_⟩
 ·rintro x _ ⟨fz,t,h⟩;refine⟨?_,rfl⟩
  by_cases hx:x=b
  ·subst hx;rw[c]at h;cases h;exact d.elim
  ·rw[a x hx]at h;exact⟨fz,t,h⟩
 ·rintro x _ ⟨fz,t,h⟩;refine⟨?_,rfl⟩
  by_cases hx:x=b
  ·subst hx;rw[c]at h;cases h;exact d.elim
  ·rw[a x hx]at h;exact⟨fz,t,h⟩
 ·rintro x _ ⟨l,h,j⟩;refine⟨?_,rfl⟩
  by_cases hx:x=b
  ·subst hx;exact⟨o,e,i⟩
  ·rw[a x hx]at h;exact⟨l,h,j⟩
 ·intro x ar ak k f _ h
  by_cases hx:x=b
  ·subst hx;unfold fp at h;rw[c]at h;cases h;exact d.elim
  ·unfold fp at h⊢;rw[a x hx]at h;exact⟨k,f,h,km _,Iff.rfl,fun _=>⟨rfl,rfl⟩⟩
 ·rintro x _ ⟨L,h⟩;refine⟨?_,rfl⟩
  by_cases hx:x=b
  ·subst hx;rw[c]at h;cases h;exact d.elim
  ·rw[a x hx]at h;exact⟨L,h⟩
theorem I8:∀{b:List (PV×PV)}{a:List dq},cR P w ad b a->bu P w ad (b.map (·.1)) (a.map (·.key))/\bC P w ad β H (b.map fun e=>.p e.2) (a.map (·.val))
 |[],a,h=>by
  simp only[cR]at h;subst h;simp[bu,bC]
 |(k,v)::r,a,h=>by
  simp only[cR]at h;obtain⟨e,rest,rfl,c,d,f⟩:=h;obtain⟨i1,i2⟩:=I8 f;simp only[hV,bu,bC];exact⟨⟨_,_,rfl,c,i1⟩,⟨_,_,rfl,by simpa only[aA]using d,i2⟩⟩
theorem Xd{b:Nat}{d:Obj}{ks:List PV}{vs:List AV}(h:cm P w ad β H ai)(g:H[b]?=some d)(a:um d=some (ks,vs)):
 d.wT/\(∃c f,w.heap[β.aq b]?=some (.map c f)/\bu P w ad ks (c.toList.map (·.key))/\bC P w ad β H vs (c.toList.map (·.val))/\cQ ad β ai false b)/\aV (aL H) vs:=by
 cases d<;>simp only[um]at a<;>try (cases a;done)
 case map fz es=>
  cases fz
  case true=>simp at a
  simp only[lq,lu]at a;obtain⟨rfl,rfl⟩:=a;obtain⟨c,f,k1,k2,k3⟩:=h.cX b _ g;obtain⟨i1,i2⟩:=I8 (β:=β) (H:=H) k2;exact⟨trivial,⟨c,f,k1,i1,i2,k3⟩,cB.2 fun v i=>by obtain⟨e,_,rfl⟩:=kh.1 i;trivial⟩
 case dK j k=>
  simp only[lq,lu]at a;obtain⟨rfl,rfl⟩:=a;exact⟨trivial,h.cX b _ g,h.refs b _ g⟩
theorem C6{T:da}{d:e7}(n:P.underlying T=some d){key:PV}{o:dg}(hk:fI P T key=true)(g:lH key)(m:aC P w ad key o):∀(ks:List PV)(vs:List AV)(c:List dq)(i:Nat)(r:Option AV),bu P w ad ks (c.map (·.key))->bC P w ad β H vs (c.map (·.val))->me P T ks vs key=some r->
 (r=none/\gy d o c i=some none)\/∃(v:AV)(j:Nat)(e:dq),r=some v/\gy d o c i=some (some (i+j,e.val))/\aA P w ad β H v e.val/\v∈vs
 |[],vs,c,i,r,f,k,h=>by
  cases c with
  |nil=>
   cases vs with
   |nil=>simp[me]at h;subst h;exact .inl ⟨rfl,rfl⟩
   |cons a b=>simp[me]at h
  |cons a b=>simp[bu]at f
 |u::ks,vs,c,i,r,f,k,h=>by
  cases c with
  |nil=>simp[bu]at f
  |cons e rest=>
   cases vs with
   |nil=>simp[bC]at k
   |cons v' vs=>
    simp only[hV,bu,bC,List.cons.injEq]at f k;obtain⟨_,_,⟨rfl,rfl⟩,p,q⟩:=f;obtain⟨_,_,⟨rfl,rfl⟩,s,t⟩:=k;simp only[me,FC g]at h
    split at h
    ·rename_i l;simp at h;subst h;obtain⟨g1,g2⟩:=BI n hk g l m p;exact .inr ⟨v',0,e,rfl,by simp[gy,g1],s,List.mem_cons_self⟩
    ·rename_i l;obtain⟨g1,g2⟩:=BI n hk g l m p;rcases C6 n hk g m ks vs rest (i+1) r q t h with⟨rfl,f1⟩|⟨v,j,e',rfl,f1,f3,f4⟩
     ·exact .inl ⟨rfl,by simp[gy,g1,f1]⟩
     ·exact .inr ⟨v,j+1,e',rfl,by simp[gy,g1,f1];omega,f3,h2 _ f4⟩
    ·simp at h
def rU(ok:Bool)(z:PV):Option AV->AV
 |some v=>if ok then .aD [v,.p (.bool true)]else v
 |none=>.p (if ok then .aD [z,.bool false]else z)
theorem IM{T:da}{f E:da}{x k:c9}{ok:Bool}{key z:PV}{r:Option AV}{b:Nat}{ks:List PV}{vs:List AV}(i:o.op= .lookup T x k ok)(c:jS P T=some (f,E))(C:cO P E=some z)(hi:ρ k= .p key)(hk:fI P f key=true)(n:oK key=true)(hl:me P f ks vs key=some r)
 (hx:ρ x=.map b):bA P o ρ base {v:=rU ok z r,al:=[(b,.dK ks vs)]}:=by
 refine bA.same fun H w ad ai β F s t al=>?_;have a:=(t x (by simp[i,hj])).1;have g:=(t k (by simp[i,hj])).1;rw[hi]at g;simp only[aA]at g;rw[hx]at a;simp only[aA,bY,b7]at a;have l:H[b]?=some (.dK ks vs):=by simpa using al
 obtain⟨y,clock,k1,k2,k3,_⟩:=s.cX b _ l;have hrefs:aV (aL H) vs:=s.refs b _ l;have a:=a.2.1 ⟨_,l,trivial⟩;have q:P.underlying T=some (.map f E):=by
  unfold jS at c
  split at c
  ·rename_i B;simp at c;rw[B,c.1,c.2]
  ·simp at c
 obtain⟨u,D,z2⟩:=PD C;obtain⟨d,h,A⟩:=Aj hk (zD n) g;have m:∀e,(gP e 10000 f (F k)).run P w=.ok () w:=fun e=>run_checkKey h A _ 9999;rcases C6 h hk (zD n) g ks vs y.toList 0 r k2 k3 hl with⟨rfl,f1⟩|⟨v,j,e,rfl,f1,f3,f4⟩
 ·have hf:=run_findKey (w:=w) h f1;refine⟨if ok then .tuple #[u,.bool false]else u,?_,?_,by cases ok<;>simp[rU,aE]⟩
  ·simp only[dk,i];refine eX ?_;cases ok<;>simp[ha,c8 q,a,hg k1,m,hf,D]
  ·cases ok with
   |true=>simp only[rU,if_true,aA,aC,bu];exact⟨_,⟨_,_,rfl,z2 w ad,_,_,rfl,rfl,rfl⟩,rfl⟩
   |false=>simpa[rU,aA]using z2 w ad
 ·have hf:=run_findKey (w:=w) h f1;refine⟨if ok then .tuple #[e.val,.bool true]else e.val,?_,?_,?_⟩
  ·simp only[dk,i];refine eX ?_;cases ok<;>simp[ha,c8 q,a,hg k1,m,hf]
  ·cases ok with
   |true=>simp only[rU,if_true,aA,bC,aC];exact⟨_,⟨_,_,rfl,f3,_,_,rfl,rfl,rfl⟩,rfl⟩
   |false=>simpa[rU]using f3
  ·have:=cB.1 hrefs v f4;cases ok<;>simp[rU,aE,aV,this]
theorem I7{w:dp}{ad:Nat->Prop}{k:PV}{x:dg}:∀{a:List PV}{l:List dg},bu P w ad a l->aC P w ad k x->bu P w ad (a++[k]) (l++[x])
 |[],l,h,hx=>by simp only[bu]at h;subst h;simp only[i7,bu];exact⟨_,_,rfl,hx,rfl⟩
 |v::a,l,h,hx=>by
  simp only[bu]at h;obtain⟨y,d,rfl,b,c⟩:=h;simp only[List.cons_append,bu];exact⟨_,_,rfl,b,I7 c hx⟩
theorem zw{T i E:da}{m k x:c9}{b:Nat}{key:PV}{u:Obj}{ks:List PV}{vs:List AV}(c:o.op= .mapUpdate T m k x\/o.op= .insert T m k x)(g:jS P T=some (i,E))(Z:ρ m= .map b)(hk:ρ k= .p key)
 (hf:fI P i key=true)(O:um u=some (ks,vs))(F:oK key=true)(hl:me P i ks vs key=some none):bA P o ρ base {v:=.p (.aD []),al:=[(b,u)],aM:=[(b,.dK (ks++[key]) (vs++[ρ x]))]}:=by
 have aa:P.underlying T=some (.map i E):=by
  unfold jS at g
  split at g
  ·rename_i ac;simp at g;rw[ac,g.1,g.2]
  ·simp at g
 intro H w ad ai β a G B al _;have s:H[b]?=some u:=by simpa using al
 have A:m∈o.op.operands/\k∈o.op.operands/\x∈o.op.operands:=by
  rcases c with c|c<;>simp[c,hj]
 have n:=(B m A.1).1;have q:=(B k A.2.1).1;obtain⟨M,N⟩:=B x A.2.2;rw[Z]at n;rw[hk]at q;simp only[aA,bY,b7]at n q;obtain⟨r,⟨l,clock,k1,k2,k3,k4⟩,ae⟩:=Xd G s O;have n:=n.2.1 ⟨_,s,r⟩;have D:¬ad (β.aq b)/\¬ai (β.aq b):=by
  unfold cQ at k4;rw[if_neg s_]at k4;exact k4
 obtain⟨d,z,W⟩:=Aj hf (zD F) q;have R:(gP false 10000 i (a k)).run P w=.ok () w:=run_checkKey z W _ 9999;have C:β.aq b<w.heap.size:=(b1.1 k1).1;have Q:b<H.length:=(hR.1 s).1;have aN:cM β H β (H.set b (.dK (ks++[key]) (vs++[ρ x]))):=Ww s r trivial;rcases C6 z hf (zD F) q ks vs l.toList 0 none k2 k3 hl with⟨_,f1⟩|⟨v',j,e,L,_⟩
 case inr=>cases L
 have V:=run_findKey (w:=w) z f1;have ab:(g8 T (a m) (a k) (a x)).run P w=.ok () {w with heap:=w.heap.setIfInBounds (β.aq b) (.map (l.push {key:=a k,val:=a x,born:=clock}) (clock+1))}:=by
  rw[n];simp only[g8,hF,c8 aa,hD,hg k1,R,V,run_setObj_map _ k1]
 have U:(dk a o).run P w=.ok .skip {w with heap:=w.heap.setIfInBounds (β.aq b) (.map (l.push {key:=a k,val:=a x,born:=clock}) (clock+1))}:=by
  rcases c with c|c<;>simp[dk,c,ab]
 have I:∀t,ad t->({w with heap:=w.heap.setIfInBounds (β.aq b) (.map (l.push {key:=a k,val:=a x,born:=clock}) (clock+1))}:dp).heap[t]?=w.heap[t]?:=by
  intro t Y;have:β.aq b≠t:=fun S=>D.1 (S▸Y);simp[this]
 have X:∀y,aL H y->aL (H.set b (.dK (ks++[key]) (vs++[ρ x]))) y:=by
  rintro⟨y,v⟩ ⟨ag,af,f⟩
  by_cases K:b=y
  ·subst K;exact⟨.dK (ks++[key]) (vs++[ρ x]),by simp only;rw[hS Q],trivial⟩
  ·exact⟨ag,by simp only;rw[h3 K];exact af,f⟩
 have J:aV (aL H) (vs++[ρ x]):=cB.2 fun v f=>by
  rcases i8.1 f with f|f
  ·exact cB.1 ae v f
  ·rw[ix.1 f];exact N
 refine⟨_,_,_,β,ad,U,.inr ⟨rfl,rfl⟩,?_,by simp[aA,aC,bu,undef],by simp[aE]⟩;simp only[newAt,hW,ba];refine Fs (o':=.dK (ks++[key]) (vs++[ρ x])) G s (by cases u<;>first|trivial|exact r.elim) trivial (fun _ _=>trivial) (fun _ h=>by rw[h]at r;exact r.elim) C D aN ⟨l.push {key:=a k,val:=a x,born:=clock},clock+1,by simp[C],?_,?_,k4⟩ (aV.mono X _ J)
 ·rw[cc,h5];exact bu.mono (fun _ x=>x) I _ _ (I7 k2 q)
 ·rw[cc,h5];refine bC.mono (fun _ x=>x) I aN _ _ J (ql k3 ?_);simp only[hV,h7,bC];exact⟨_,_,rfl,M,rfl⟩
theorem zx{c:da}{b:Nat}{key:PV}{x:AV}{a:Obj}{K:aZ->Prop}(h:qc P c b key x a K):∃ks vs,um a=some (ks,vs)/\oK key=true/\me P c ks vs key=some none/\K {v:=.p (.aD []),al:=[(b,a)],aM:=[(b,.dK (ks++[key]) (vs++[x]))]}:=by
 unfold qc at h
 split at h
 ·rename_i ks vs d;exact⟨ks,vs,d,h⟩
 ·exact h.elim
end
section
variable{P:db}{w:dp}{ad ai:Nat->Prop}{β:Bd}{H:Heap}
variable{o:Oper}{ρ:c9->AV}{base:Nat}
theorem Yg(bs:ByteArray):ic (jB bs)=bs:=by
 unfold ic jB;apply ByteArray.ext;apply b3;simp only[i6];have:(lz∘fun x:UInt8=>x.toNat)=id:=by funext x;simp
 rw[this];simp
theorem avB{T:da}{x:c9}{s:List Nat}(d:o.op=.range T x)(hx:ρ x=.p (.str s))(e:je P T=true):bA P o ρ base {v:=.ptr base [],aX:=[.dO s 0]}:=by
 intro H w ad ai β k b j _ f;have c:H[base]?=some .hole:=by simpa using f 0 s_
 have a:=(j x (by simp[d,hj])).1;rw[hx]at a;simp only[aA,aC]at a;obtain⟨bs,e1,e2⟩:=a;have i:(dk k o).run P w=.ok (.value (.pointer (some ⟨w.heap.size,0,none⟩))) {w with heap:=w.heap.push (.stringIter bs 0)}:=by
  simp only[dk,d,e1];exact xg (by simp[Instr.range,c8 (Ab e)])
 have g:=uM (cap:=0) b c (ob:=.stringIter bs 0) (o':=.dO s 0)
  ⟨bs,by simp[Bd.at],e2,by
   simp only[cQ,Bd.at,if_true,c7,if_false];exact⟨fun h=>ko _ (b.cd _ h),fun h=>ko _ (b.fe _ h)⟩⟩ trivial
 refine⟨_,_,_,_,ad,i,.inl rfl,g,?_,?_⟩
 ·simp only[aA,bY,b7,mH];exact⟨rfl,_,_,0,rfl,rfl,fun _=>by simp[Bd.at]⟩
 ·simp only[aE,mH];exact⟨_,hS (hR.1 c).1,trivial⟩
theorem aPi{it:c9}{b:Nat}{s:List Nat}{pos:Nat}(g:o.op= .next it true)(hx:ρ it= .ptr b []):
 (pos<s.length->bA P o ρ base {v:=.p (.aD [.bool true,.int .i64 pos,.int .i32 (hM (ic s) pos).1]),al:=[(b,.dO s pos)],aM:=[(b,.dO s (pos+(hM (ic s) pos).2))]})/\
 (¬pos<s.length->bA P o ρ base {v:=.p (.aD [.bool false]),al:=[(b,.dO s pos)]}):=by
 have key:∀{H:Heap}{w:dp}{ad ai:Nat->Prop}{β:Bd}{e:c9->dg},cm P w ad β H ai->(∀x∈o.op.operands,aA P w ad β H (ρ x) (e x)/\aE (aL H) (ρ x))->H[b]?=some (.dO s pos)->
  e it=.pointer (some ⟨β.aq b,0,none⟩)/\∃bs:ByteArray,w.heap[β.aq b]?=some (.stringIter bs pos)/\s=jB bs/\(¬ad (β.aq b)/\¬ai (β.aq b)):=by
  intro H w ad ai β e d f a;have c:=(f it (by simp[g,hj])).1;rw[hx]at c;simp only[aA,bY,b7]at c;obtain⟨_,aq,off,t,m,k,n⟩:=c;simp[gT]at k;subst k;obtain⟨rfl,rfl⟩:=n (.inr ⟨_,_,a⟩);obtain⟨bs,k1,k2,k3⟩:=d.cX b _ a;unfold cQ at k3;rw[if_neg s_]at k3;exact⟨m,bs,k1,k2,k3⟩
 constructor
 ·intro i H w ad ai β e d f al _;have a:H[b]?=some (.dO s pos):=by simpa using al
  obtain⟨c,bs,k1,rfl,k3⟩:=key d f a;have j:pos<bs.size:=by simpa[jB]using i
  have l:β.aq b<w.heap.size:=(b1.1 k1).1;rw[Yg];have r:(dk e o).run P w=.ok (.value (.tuple #[.bool true,goInt pos,.int .i32 (hM bs pos).1])) {w with heap:=w.heap.setIfInBounds (β.aq b) (.stringIter bs (pos+(hM bs pos).2))}:=by
   simp only[dk,g,c];refine xg ?_;simp[he,getObj,setObj,hH,k1,hE,j]
  have aN:cM β H β (H.set b (.dO (jB bs) (pos+(hM bs pos).2))):=qw a (.inr (.inr (.inr ⟨_,_,_,rfl,rfl⟩)));have q:=Fs (o':=.dO (jB bs) (pos+(hM bs pos).2)) (ob:=.stringIter bs (pos+(hM bs pos).2)) d a trivial trivial (fun _ h=>h) (fun _ h=>by cases h) l k3 aN
   ⟨bs,by simp[l],rfl,by unfold cQ;rw[if_neg s_];exact k3⟩ trivial
  refine⟨_,_,_,β,ad,r,.inl rfl,?_,?_,by simp[aE]⟩
  ·simpa only[newAt,hW,ba]using q
  ·simp only[aA,aC,bu];exact⟨_,⟨_,_,rfl,rfl,_,_,rfl,rfl,_,_,rfl,rfl,rfl⟩,rfl⟩
 ·intro i;refine bA.same fun H w ad ai β e d f al=>?_;have a:H[b]?=some (.dO s pos):=by simpa using al
  obtain⟨c,bs,k1,rfl,k3⟩:=key d f a;have j:¬pos<bs.size:=by simpa[jB]using i
  refine⟨.tuple #[.bool false],?_,by simp only[aA,aC,bu];exact⟨_,⟨_,_,rfl,rfl,rfl⟩,rfl⟩,by simp[aE]⟩;simp only[dk,g,c];refine eX ?_;simp[he,getObj,hH,k1,hE,j]
theorem avC{T u:da}{x:c9}{f:Nat}{fs:Array en}{t g:PV}{F:da}(h:o.op= .field T x f)(hk:kindOf P T= .agg u)(b:P.underlying T=some (.struct fs))(hx:ρ x= .p t)(hs:aP t= .agg u)(e:(cS t)[f]?=some g)(q:(j0 P u)[f]?=some F)(r:kindOf P F=aP g):
 bA P o ρ base {v:=.p g}:=by
 refine bA.same fun H w ad ai β K E z _=>?_;have a:=(z x (by simp[h,hj])).1;rw[hx]at a;simp only[aA]at a;cases t<;>simp[aP]at hs;rename_i u' m;subst hs;simp only[cS]at e;simp only[aC]at a;obtain⟨l,d,k1,k2,k3⟩:=a;obtain⟨D,G,s1,s2,I,j,J,A⟩:=xl (P:=P) (T:=T) (u:=u') (n:=fs.size) (by unfold fZ;rw[hk,b]);rw[b]at s1;cases s1;rw[k1]at j;cases j;have s:bX P w ad ⟨id,id⟩ [] l (m.map .p) d:=o6.2 k2;obtain⟨pre,c,post,e1,e2,e3,e4,e5,_⟩:=uW (f:=.p g) (i:=f) s (by simp[e]);simp only[bw]at e5;obtain⟨C,g1,g2,g3,g4,g5⟩:=A f o_;rw[q]at g5;cases g5;obtain⟨y,k,B⟩:=sT r e5 (pre:=pre) (post:=post) (cs:=d.flatten.toArray) (by simpa using e1);refine⟨y,?_,by simpa only[aA]using B,by simp[aE]⟩;simp only[dk,h,k3];refine eX ?_;rw[e2,<-g2]at k;simp only[Instr.field,hF,c8 b,hD,g1];simp[asAgg,k]
theorem YT{T u:da}{n:Nat}{x k:c9}{O:ed}{i:Int}{a:List PV}{g:PV}{F:da}(j:o.op= .index T x k)(A:iQ P T=some (u,n))(hx:ρ x= .p (.st u a))(hi:ρ k= .p (.int O i))
 (z:0<=i)(J:i.toNat<n)(h:(j0 P u)[i.toNat]?=some F)(E:a[i.toNat]?=some g)(G:kindOf P F=aP g):bA P o ρ base {v:=.p g}:=by
 refine bA.same fun H w ad ai β S R s _=>?_;have b:=(s x (by simp[j,hj])).1;have d:=(s k (by simp[j,hj])).1;rw[hx]at b;rw[hi]at d;simp only[aA,aC]at b d;obtain⟨l,m,k1,k2,k3⟩:=b;obtain⟨e,r,hk,hl,K⟩:=uR A;rw[k1]at hl;cases hl;have B:F=e:=by
  obtain⟨D,_,_⟩:=D4 hk;have C:(P.info? u).map (fun i:ee=>i.desc)=some (.array n e):=by rw[D,<-DN,r]
  unfold j0 at h;rw[C]at h;have q:(hU n e)[i.toNat]?=some F:=h;rw[List.getElem?_replicate,if_pos J]at q;exact(ls q).symm
 subst B;have L:bX P w ad ⟨id,id⟩ [] (hU n (P.cellsOf F)) (a.map .p) m:=o6.2 k2;obtain⟨pre,c,post,e1,e2,e3,e4,e5,_⟩:=uW (f:=.p g) (i:=i.toNat) L (by simp[E]);simp only[bw]at e5;obtain⟨y,t,Q⟩:=sT G e5 (pre:=pre) (post:=post) (cs:=m.flatten.toArray) (by simpa using e1);have M:((hU n (P.cellsOf F)).take i.toNat).sum=i.toNat*P.cellsOf F:=by rw[List.take_replicate,Nat.min_eq_left o_,List.sum_replicate_nat]
 have N:(sizeOf F).run P w=.ok (P.cellsOf F) w:=by
  cases hi:P.info? F with
  |none=>simp[Program.cellsOf,hi]at K
  |some i=>simp[sizeOf,typeInfo,hi,Program.cellsOf]
 refine⟨y,?_,by simpa only[aA]using Q,by simp[aE]⟩;simp only[dk,j,k3,d];refine eX ?_;have I:i<(n:Int):=o_
 rw[e2,M]at t;simp only[Instr.index,asIntOf,hF,hG,c8 r,hD];simp[z,I,N,t]
theorem LJ{k:ed}{f:Bool}{ρc:c9->dg}:∀(l:List c9)(a n:Int),mP k f (l.map ρ) a=some n->(∀x∈l,aA P w ad β H (ρ x) (ρc x))->
 ((l.map ρc).foldlM (if f then gi else gg) (.int k a)).run P w=.ok (.int k n) w
 |[],a,n,h,_=>by simp[mP]at h;subst h;simp
 |x::l,a,n,h,g=>by
  simp only[hV]at h;unfold mP at h
  split at h
  ·rename_i e;cases e
  ·rename_i j b r a' e;simp at e;obtain⟨e1,rfl⟩:=e
   split at h
   case isFalse=>simp at h
   rename_i hk;subst hk;have d:=g x s_;rw[e1]at d;simp only[aA,aC]at d;have c:=LJ l _ n h (fun y i=>g y (by simp[i]));simp only[hV,List.foldlM_cons,hF,d];cases f with
   |true=>simp only[if_true,gi,hG,hD]at c⊢;exact c
   |false=>simp only[c7,if_false,gg,hG,hD]at c⊢;exact c
  ·simp at h
theorem Na{c:Call}{isMax:Bool}{k:ed}{a n:Int}{r:List AV}(j:o.op= .call c)(hc:c.callee= .builtin (if isMax then .max else .min))(b:c.args.toList.map ρ= .p (.int k a)::r)(h:mP k isMax r a=some n):
 bA P o ρ base {v:=.p (.int k n)}:=by
 obtain⟨x,l,hl⟩:∃x l,c.args.toList=x::l:=by
  cases q:c.args.toList with
  |nil=>rw[q]at b;simp at b
  |cons x l=>exact⟨x,l,rfl⟩
 rw[hl]at b;simp at b;obtain⟨hx,rfl⟩:=b;have g:c.args=(x::l).toArray:=by apply b3;simpa using hl
 have i:∀y∈x::l,y∈o.op.operands:=by
  intro y f;rw[j];simp only[hj,gx,hc,g];simpa using f
 refine bA.same fun H w ad ai β s t m _=>⟨.int k n,?_,by simp[aA,aC],by simp[aE]⟩
 have d:=(m x (i x s_)).1;rw[hx]at d;simp only[aA,aC]at d;have e:=LJ (ρc:=s) l a n h (fun y f=>(m y (i y (by simp[f]))).1);simp only[dk,j,resolve,hc,g];cases isMax with
 |true=>
  simp only[if_true]at e⊢;simp[invoke,builtin,gm,d,e]
 |false=>
  simp only[c7,if_false]at e⊢;simp[invoke,builtin,gl,d,e]
theorem aPe{c:Call}{d x:c9}{sz b ar off len:Nat}{k:AK}{f g:List AV}{H0:Heap}(U:o.op= .call c)(hc:c.callee= .builtin .copy)(O:c.args.toList=[d,x])(aq:c.argTypes.size=2)(t:cV P (c.argTypes.getD 0 0)=some sz)
 (ab:ρ d=.sl b ar sz off len)(hx:iD H0 (ρ x)=some g)(ap:fh P sz g)(hk:k≠.frozen)(hl:off+len<=f.length)(C:¬dA k f):
 bA P o ρ base {v:=.p (.int .i64 (min g.length len:Nat)),al:=(b,.arr k ar sz f)::dR H0 (ρ x),aM:=[(b,.arr k ar sz (f.take off++g.take (min g.length len)++f.drop (off+min g.length len)))]}:=by
 obtain⟨T,X,N⟩:∃T X,c.argTypes=#[T,X]:=by
  obtain⟨l,hl⟩:∃l,l=c.argTypes.toList:=⟨_,rfl⟩
  have s:l.length=2:=by rw[hl];simpa using aq
  match l,s with
  |[a,b],_=>exact⟨a,b,by apply b3;simp[<-hl]⟩
 have G:d∈o.op.operands/\x∈o.op.operands:=by
  have aa:c.args=#[d,x]:=by apply b3;simpa using O
  rw[U];simp[hj,gx,hc,aa]
 have e1:c.argTypes.getD 0 0=T:=by rw[N];rfl
 rw[e1]at t;obtain⟨e,i,t⟩:=ly t;intro H w ad ai β Z D L al _;have r:H[b]?=some (.arr k ar sz f):=al (b,_) s_;have j:=(L d G.1).1;rw[ab]at j;simp only[aA,bY,b7]at j;obtain⟨_,_,j⟩:=j.2 k f r;have j:=j C;rcases D.cX b _ r with hold|⟨cs,E,aB,rest,k1,k2,k3,k4,k5,k6,k7,k8⟩
 ·exact(C hold).elim
 have R:¬ad (β.aq b)/\¬ai (β.aq b):=by
  unfold cQ at k7;rw[if_neg (by simpa using hk)]at k7;exact k7
 obtain⟨az,av,aw,ax,ay⟩:=xS (rk hx (fun p ak=>al p (h2 _ ak))) D (L x G.2).1 (L x G.2).2 ap;obtain⟨n,S⟩:∃n,n=min g.length len:=⟨_,rfl⟩
 rw[<-S];have Y:=ay w rfl n o_;obtain⟨y,m,z,g1,g2,g3,g4,g5⟩:=kF av 0 n o_;have au:y=[]:=by have:=(gu g4).1;simpa using this
 subst au;have ag:az.take n=m:=by
  have:=(gu g2).1;rw[g1];simp at this⊢;rw[List.take_left' o_]
 rw[ag]at Y;simp only[j5]at g2;obtain⟨a,M,q,f1,f2,f3,f4,f5⟩:=kF k2 off n o_;have I:m.flatten.length=n*sz:=by have:=(gu g2).2;rw[this];congr 1;simp;omega
 have J:M.flatten.length=n*sz:=by have:=(gu f2).2;rw[this];congr 1;simp;omega
 have Q:cs.toList=a.flatten++M.flatten++(q.flatten++rest):=by rw[k3,f1];simp
 have W:cs.size=a.flatten.length+M.flatten.length+(q.flatten++rest).length:=by
  have:=congrArg j4 Q;simp only[hT,b5]at this;rw[this,hT]
 have K:=eb P (β.aq b) (off*sz) E m.flatten 0 cs w k1 (by rw[W,f3,I,J];simp only[kv];exact kA _ _) (xZ g2);simp only[kv]at K;have aX:cs.toList.take (off*sz)++m.flatten++cs.toList.drop (off*sz+m.flatten.length)=a.flatten++m.flatten++(q.flatten++rest):=by
  rw[Q,<-f3,I,<-J];exact DO _ _ _ _
 rw[aX]at K;have an:(gb c.argTypes o.type #[Z d,Z x]).run P w=.ok (goInt n) (w.setRow (β.aq b) (a.flatten++m.flatten++(q.flatten++rest)).toArray):=by
  rw[N,j];have ah:Nat.min g.length len=n:=S.symm;have aD:∀(p:Option Addr)(n c:Nat),fl (.slice p n c)=pure n:=fun _ _ _=>rfl;simp[gb,c8 t.ig,ax,ah,t.run,Y,K]
 have B:(f.take off++g.take n++f.drop (off+n)).length=f.length:=by simp;omega
 have aN:cM β H β (H.set b (.arr k ar sz (f.take off++g.take n++f.drop (off+n)))):=qw r (.inr (.inl ⟨_,_,_,_,_,rfl,rfl,B.symm⟩));have ao:∀A,ad A->(w.setRow (β.aq b) (a.flatten++m.flatten++(q.flatten++rest)).toArray).heap[A]?=w.heap[A]?:=fun A af=>ea w _ A _ (fun F=>R.1 (F▸af));have hrefs:aV (aL H) (f.take off++g.take n++f.drop (off+n)):=by
  have V:=cB.1 (D.refs b _ r);refine kD (kD ?_ ?_) ?_
  ·rw[cB];exact fun v u=>V v (h0 u)
  ·rw[cB];exact fun v u=>cB.1 aw v (h0 u)
  ·rw[cB];exact fun v u=>V v (h6 u)
 have ac:=mS r (o:=.arr k ar sz (f.take off++g.take n++f.drop (off+n))) (fun _ h=>h);have aj:¬dA k (f.take off++g.take n++f.drop (off+n)):=fun h=>C ⟨h.1,by have s:=h.2;rw[<-h4]at s⊢;rw[B]at s;exact s⟩;have am:=sd D r C (o':=.arr k ar sz (f.take off++g.take n++f.drop (off+n))) aj (fun _ h=>h) k1 (new:=(a.flatten++m.flatten++(q.flatten++rest)).toArray) R aN
  (.inr ⟨_,E,a++m++q,rest,ec w _ _ _ E _ k1,by
   refine Row.mono (fun _ x=>x) ao aN hrefs (mf.2 ⟨_,_,rfl,mf.2 ⟨_,_,rfl,f4,g2⟩,f5⟩),s_,by
   rw[<-k4,W];simp only[h9,hT,I,J],by rw[B];exact k5,fun F=>by rw[B];exact k6 F,k7,(fun ae=>(hk ae).elim),k8.2⟩) (aV.mono ac _ hrefs)
 refine⟨_,_,_,β,ad,atB U hc O an,.inl rfl,?_,by simp[aA,aC,goInt],by simp[aE]⟩;simpa only[newAt,hW,ba]using am
end
section
variable{P:db}{w:dp}{ad ai:Nat->Prop}{β:Bd}{H:Heap}
variable{o:Oper}{ρ:c9->AV}{base:Nat}
theorem Bb{c:Call}{x:c9}(e:o.op=.call c){b:Builtin}(hc:c.callee=.builtin b)(d:c.args.toList=[x]):x∈o.op.operands/\c.args=#[x]:=by
 have a:c.args=#[x]:=by apply b3;simpa using d
 refine⟨?_,a⟩;rw[e];simp only[hj,gx,hc,a];simp
theorem Aa{T:da}{a:AV}(h:iL P T a=true)(hs:(∃b v e i l,a=.sl b v e i l)\/a=.p .aH\/∃f c,a=.p (.bF f c)):∃e,P.underlying T=some (.slice e):=by
 rcases hs with⟨b,v,e,i,l,rfl⟩|rfl|⟨f,c,rfl⟩<;>
 ·simp only[iL]at h
  split at h
  ·rename_i e d;exact⟨e,d⟩
  ·simp at h
theorem aPd{c:Call}{x:c9}{n:Nat}{al:List (Nat×Obj)}{H0:Heap}(u:o.op= .call c)(hc:c.callee= .builtin .cap)(z:c.args.toList=[x])(hl:B2 H0 (ρ x)=some (n,al))(k:iL P (c.argTypes.getD 0 0) (ρ x)=true)(E:0<c.argTypes.size):
 bA P o ρ base {v:=.p (.int .i64 n),al}/\(∀p∈al,H0[p.1]?=some p.2):=by
 obtain⟨m,A⟩:=Bb u hc z;have B:c.argTypes[0]?=some (c.argTypes.getD 0 0):=by simp[cv,E]
 generalize c.argTypes.getD 0 0=T at*
 have i:∀{H:Heap}{w:dp}{ad:Nat->Prop}{β:Bd}{d:c9->dg},(∃p l,d x= .slice p l n)->(∃e,P.underlying T=some (.slice e))->
  ∃r,(dk d o).run P w=.ok (.value r) w/\aA P w ad β H (.p (.int .i64 n)) r/\aE (aL H) (.p (.int .i64 n)):=by
  rintro H w ad β d ⟨p,l,hx⟩ ⟨e,F⟩;refine⟨goInt n,?_,by simp[aA,aC,goInt],by simp[aE]⟩;simp only[dk,u,resolve,hc,A];simp[invoke,builtin,gp,B,hx,c8 F]
 unfold B2 at hl
 split at hl
 ·rename_i hx;simp at hl;obtain⟨rfl,rfl⟩:=hl;refine⟨bA.same fun H w ad ai β d q f al=>i ?_ (Aa k (.inr (.inl hx))),s_⟩;have a:=(f x m).1;rw[hx]at a;simp only[aA,aC]at a;exact⟨_,_,a⟩
 ·rename_i g hx;simp at hl;obtain⟨rfl,rfl⟩:=hl;refine⟨bA.same fun H w ad ai β d q f al=>i ?_ (Aa k (.inr (.inr ⟨_,_,hx⟩))),s_⟩;have a:=(f x m).1;rw[hx]at a;simp only[aA,aC]at a;obtain⟨_,_,cap,_,_,_,_,_,y,_,_,_,j⟩:=a;exact⟨_,_,by rw[j,y trivial]⟩
 ·rename_i b ar ak off len hx
  split at hl
  case h_2=>simp at hl
  rename_i K J g D
  split at hl
  case isFalse=>simp at hl
  rename_i C;obtain⟨rfl,rfl,hle⟩:=C;simp at hl;obtain⟨rfl,rfl⟩:=hl;refine⟨bA.same fun H w ad ai β d q f al=>i ?_ (Aa k (.inl ⟨_,_,_,_,_,hx⟩)),by simpa using D⟩;have t:H[b]?=some (.arr .exact ar ak g):=by simpa using al
  have a:=(f x m).1;rw[hx]at a;simp only[aA,bY,b7]at a;obtain⟨_,_,j⟩:=a.2 _ _ t;have s:¬dA .exact g:=fun h=>by simp[dA,AK.gr]at h
  rcases q.cX b _ t with hold|⟨cs,G,I,rest,k1,k2,k3,k4,k5,k6,_⟩
  ·exact(s hold).elim
  exact⟨_,_,by rw[j s,k6 rfl]⟩
 ·simp at hl
theorem XH{c:Call}{x:c9}(b:o.op= .call c)(hc:c.callee= .builtin .clear)(f:c.args.toList=[x])(hx:ρ x= .p .aH)(d:iL P (c.argTypes.getD 0 0) (ρ x)=true)(j:0<c.argTypes.size):
 bA P o ρ base {v:=.p (.aD [])}:=by
 obtain⟨i,g⟩:=Bb b hc f;have h:c.argTypes[0]?=some (c.argTypes.getD 0 0):=by simp[cv,j]
 generalize c.argTypes.getD 0 0=T at*;obtain⟨e,k⟩:=Aa d (.inr (.inl hx));refine bA.same fun H w ad ai β n m l al=>?_;have a:=(l x i).1;rw[hx]at a;simp only[aA,aC]at a;refine⟨.tuple #[],?_,by simp[aA,aC,bu],by simp[aE]⟩;simp only[dk,b,resolve,hc,g];simp[invoke,builtin,fv,h,a,c8 k]
theorem avD{c:Call}{x:c9}{sz b ar off len:Nat}{k:AK}{d:List AV}{z:PV}(M:o.op= .call c)(hc:c.callee= .builtin .clear)(W:c.args.toList=[x])(aj:0<c.argTypes.size)(l:cV P (c.argTypes.getD 0 0)=some sz)
 (ak:cO P (ez P (c.argTypes.getD 0 0))=some z)(au:bO P (aP z)=sz)(hx:ρ x=.sl b ar sz off len)(hk:k≠.frozen)(hl:off+len<=d.length)(t:¬dA k d)(aq:0<len):
 bA P o ρ base {v:=.p (.aD []),al:=[(b,.arr k ar sz d)],aM:=[(b,.arr k ar sz (d.take off++hU len (.p z)++d.drop (off+len)))]}:=by
 obtain⟨ac,X⟩:=Bb M hc W;have Y:c.argTypes[0]?=some (c.argTypes.getD 0 0):=by simp[cv,aj]
 obtain⟨e,i,l⟩:=ly l;obtain⟨av,r,U,z2,z3,z4⟩:=qj ak;rw[l.rN]at U;intro H w ad ai β V D ao al _;have j:H[b]?=some (.arr k ar sz d):=al (b,_) s_;have g:=(ao x ac).1;rw[hx]at g;simp only[aA,bY,b7]at g;obtain⟨_,_,g⟩:=g.2 k d j;have g:=g t;rcases D.cX b _ j with hold|⟨cs,u,ap,rest,k1,k2,k3,k4,k5,k6,k7,k8⟩
 ·exact(t hold).elim
 have K:¬ad (β.aq b)/\¬ai (β.aq b):=by
  unfold cQ at k7;rw[if_neg (by simpa using hk)]at k7;exact k7
 have Q:=z3 w ad;have R:r.cells.size=sz:=by have:=(oX Q).1;simp at this;omega
 have an:r.cells.toList.length=sz:=by simpa using R
 have E:=xm (β:=β) (H:=H) Q len;rw[an]at E;obtain⟨m,L⟩:∃m,m=hU len r.cells.toList:=⟨_,rfl⟩
 rw[<-L]at E;have F:Row P w ad β H sz (hU len (.p z)) m:=by
  exact E
 obtain⟨a,I,f,f1,f2,f3,f4,f5⟩:=kF k2 off len hl;have B:m.flatten.length=len*sz:=by have:=(gu F).2;rw[this];simp
 have C:I.flatten.length=len*sz:=by have:=(gu f2).2;rw[this];congr 1;simp;omega
 have J:cs.toList=a.flatten++I.flatten++(f.flatten++rest):=by rw[k3,f1];simp
 have O:cs.size=a.flatten.length+I.flatten.length+(f.flatten++rest).length:=by
  have:=congrArg j4 J;simp only[hT,b5]at this;rw[this,hT]
 have G:=eb P (β.aq b) (off*sz) u m.flatten 0 cs w k1 (by rw[O,f3,B,C];simp only[kv];exact kA _ _) (xZ F);simp only[kv]at G;have aX:cs.toList.take (off*sz)++m.flatten++cs.toList.drop (off*sz+m.flatten.length)=a.flatten++m.flatten++(f.flatten++rest):=by
  rw[J,<-f3,B,<-C];exact DO _ _ _ _
 rw[aX]at G;have am:(fm r.cells len).toList=m.flatten:=by
  have:=Ah r.cells len (by rw[R];exact l.pos);rw[L,<-this];rfl
 have ag:(dk V o).run P w=.ok (.value (.tuple #[])) (w.setRow (β.aq b) (a.flatten++m.flatten++(f.flatten++rest)).toArray):=by
  obtain⟨S,rfl⟩:∃S,len=S+1:=⟨len-1,o_⟩
  simp only[dk,M,resolve,hc,X];generalize c.argTypes.getD 0 0=T at*;simp only[hF,hG,hD,invoke,builtin,i0,hV,h7];have key:(fv c.argTypes o.type #[V x]).run P w=.ok (.tuple #[]) (w.setRow (β.aq b) (a.flatten++m.flatten++(f.flatten++rest)).toArray):=by
   simp[fv,Y,g,c8 l.ig,uK U z2,am,G]
  rw[key];rfl
 have s:(d.take off++hU len (AV.p z)++d.drop (off+len)).length=d.length:=by simp;omega
 have aN:cM β H β (H.set b (.arr k ar sz (d.take off++hU len (.p z)++d.drop (off+len)))):=qw j (.inr (.inl ⟨_,_,_,_,_,rfl,rfl,s.symm⟩));have ah:∀q,ad q->(w.setRow (β.aq b) (a.flatten++m.flatten++(f.flatten++rest)).toArray).heap[q]?=w.heap[q]?:=fun q ab=>ea w _ q _ (fun A=>K.1 (A▸ab));have hrefs:aV (aL H) (d.take off++hU len (AV.p z)++d.drop (off+len)):=by
  have N:=cB.1 (D.refs b _ j);refine kD (kD ?_ ?_) ?_
  ·rw[cB];exact fun v n=>N v (h0 n)
  ·rw[cB];intro v n;rw[List.eq_of_mem_replicate n];simp[aE]
  ·rw[cB];exact fun v n=>N v (h6 n)
 have Z:=mS j (o:=.arr k ar sz (d.take off++hU len (.p z)++d.drop (off+len))) (fun _ h=>h);have ae:¬dA k (d.take off++hU len (AV.p z)++d.drop (off+len)):=fun h=>t ⟨h.1,by have y:=h.2;rw[<-h4]at y⊢;rw[s]at y;exact y⟩;have af:=sd D j t (o':=.arr k ar sz (d.take off++hU len (AV.p z)++d.drop (off+len))) ae (fun _ h=>h) k1 (new:=(a.flatten++m.flatten++(f.flatten++rest)).toArray) K aN
  (.inr ⟨_,u,a++m++f,rest,ec w _ _ _ u _ k1,by
   refine Row.mono (fun _ x=>x) ah aN hrefs (mf.2 ⟨_,_,rfl,mf.2 ⟨_,_,rfl,f4,F⟩,f5⟩),s_,by
   rw[<-k4,O];simp only[h9,hT,B,C],by rw[s];exact k5,fun A=>by rw[s];exact k6 A,k7,(fun aa=>(hk aa).elim),k8.2⟩) (aV.mono Z _ hrefs)
 refine⟨_,_,_,β,ad,ag,.inl rfl,?_,by simp[aA,aC,bu],by simp[aE]⟩;simpa only[newAt,hW,ba]using af
theorem DS{c:Call}{x:c9}{v:AV}{al:List (Nat×Obj)}{H0:Heap}(l:o.op= .call c)(hc:c.callee= .builtin .unsafeSliceData)(n:c.args.toList=[x])
 (h:(ρ x=.p .aH/\v=.p .dX/\al=[])\/∃b ar ak off len k a,ρ x=.sl b ar ak off len/\H0[b]?=some (.arr k ar ak a)/\al=[(b,.arr k ar ak a)]/\((dA k a/\v=.p .dX)\/(0<len/\off+len<=a.length/\v=.ct b ar ak off []))):
 bA P o ρ base {v,al}:=by
 obtain⟨s,q⟩:=Bb l hc n;refine bA.same fun H w ad ai β m t y r=>?_;obtain⟨d,i⟩:=y x s;have g:∀f,(gj c.argTypes o.type #[m x]).run P w=.ok f w->(dk m o).run P w=.ok (.value f) w:=by
  intro f u;simp only[dk,l,resolve,hc,q];simp only[hF,hG,hD,invoke,builtin,i0,hV,h7];rw[u];rfl
 rcases h with⟨hx,rfl,rfl⟩|⟨b,ar,ak,off,len,k,a,hx,C,rfl,h⟩
 ·rw[hx]at d;simp only[aA,aC]at d;exact⟨_,g _ (by rw[d];exact Lib.run_unsafeSliceData_nil w _ _ _ _),by simp[aA,aC],by simp[aE]⟩
 ·have j:H[b]?=some (.arr k ar ak a):=by simpa using r
  rw[hx]at d i;simp only[aA,bY,b7]at d;obtain⟨_,v2,v3⟩:=d.2 k a j;rcases h with⟨e,rfl⟩|⟨D,hle,rfl⟩
  ·exact⟨_,g _ (by rw[v2 e];exact Lib.run_unsafeSliceData_nil w _ _ _ _),by simp[aA,aC],by simp[aE]⟩
  ·have e:¬dA k a:=fun h=>by rw[h.2]at hle;simp at hle;omega
   rcases t.cX b _ j with hold|⟨cs,z,A,rest,k1,k2,k3,k4,k5,_⟩
   ·exact(e hold).elim
   refine⟨_,g _ (by rw[v3 e];exact Lib.run_unsafeSliceData_row w _ _ _ _ _ o_),?_,by simpa only[aE]using i⟩;simp only[aA,bY,b7];refine⟨by simp[hN],β.aq b,off*ak,0,s_,rfl,fun E B hl _=>⟨rfl,s_⟩⟩
theorem atz(w:dp)(a:Addr)(n:Nat):(w.freeze a n).os=w.os/\(w.freeze a n).output=w.output:=by
 unfold hP
 first|exact⟨rfl,rfl⟩|(split<;>exact⟨rfl,rfl⟩)
theorem ate{w':dp}(j:cm P w ad β H ai){b:Nat}{o:Obj}(i:H[b]?=some o)(hl:o.live)(g:¬ad (β.aq b)/\¬ai (β.aq b))(B:∀L,o≠ .loop L)(C:w'.heap.size=w.heap.size)
 (hs:∀k,k≠β.aq b->w'.heap[k]?=w.heap[k]?)(A:w'.os=w.os/\w'.output=w.output:=by exact⟨rfl,rfl⟩):cj P ai ad w β H ad w' β (H.set b .dead):=by
 have n:b<H.length:=(hR.1 i).1;have c:∀(x:Nat)(a:Obj),(H.set b Obj.dead)[x]?=some a->a≠.dead->H[x]?=some a:=by
  intro x a hx q
  by_cases l:b=x
  ·subst l;rw[hS n]at hx;cases hx;exact(q rfl).elim
  ·rwa [h3 l]at hx
 have aN:cM β H β (H.set b .dead):=by
  refine⟨?_,?_,?_,?_,?_⟩
  ·rintro x _ ⟨f,t,h⟩;exact⟨⟨f,t,c _ _ h s_⟩,rfl⟩
  ·rintro x _ ⟨f,t,h⟩;exact⟨⟨f,t,c _ _ h s_⟩,rfl⟩
  ·rintro x _ ⟨D,h,p⟩;exact⟨⟨D,c _ _ h (fun e=>by rw[e]at p;exact p.elim),p⟩,rfl⟩
  ·intro x ar ak k v _ h;exact⟨k,v,c _ _ h s_,km _,Iff.rfl,fun _=>⟨rfl,rfl⟩⟩
  ·rintro x _ ⟨L,h⟩;exact⟨⟨L,c _ _ h s_⟩,rfl⟩
 have m:cj P ai ad w β H ad w β (H.set b .dead):=
  cj.set j n (fun _ _=>⟨rfl,rfl⟩) (fun _ x=>x) (fun _ x=>.inl x) j.cd (km _) (fun _ _ _=>rfl) (fun h=>h.elim) aN trivial trivial (fun _ _ _ _=>trivial) (fun L s=>by rw[i]at s;cases s;exact(B L rfl).elim)
 have hx:=j.pq i hl;have y:=m.rel.Oa hx (fun x a r d u=>by
  have q:a≠.dead:=fun e=>by rw[e]at d;exact d
  have l:x=b:=j.inj x b a o (c _ _ r q) i d hl (fun hi=>g.1 (u▸hi)) u;subst l;rw[hS n]at r;cases r;exact d)
 have z:=y.shut (w':=w') (Prot0:=ai) (fun _ h=>.inl h) (R:=fun k=>k=β.aq b) (fun x e=>⟨.inr e,e▸g.1⟩) C (fun k hk=>hs k hk);refine⟨fun _ h=>h,fun _ h=>.inl h,⟨o_,fun k hk=>hs k (fun e=>?_),A⟩,aN,z,m.gh,m.loop⟩;rcases hk with hk|hk
 ·exact g.2 (e▸hk)
 ·exact g.1 (e▸hk)
theorem Er:∀{d:List AV}{l:List Nat}{b:List (List dg)},bytesOf d=some l->Row P w ad β H 1 d b->b.flatten=l.map (fun c=>hO .u8 (c:Nat))/\l.length=d.length/\∀c∈l,c<256
 |[],l,b,h,a=>by
  simp[bytesOf]at h;subst h;rw[iW]at a;subst a;simp
 |v::d,l,b,h,a=>by
  unfold bytesOf at h
  split at h
  ·rename_i e;cases e
  ·rename_i c r e;simp at e;obtain⟨rfl,rfl⟩:=e
   split at h
   case isFalse=>simp at h
   rename_i hc
   split at h
   case h_2=>simp at h
   rename_i m i;simp at h;subst h;rw[su]at a;obtain⟨j,cs,rfl,f,k,g⟩:=a;obtain⟨i1,i2,i3⟩:=Er i g;simp only[bw,aY]at f;subst f;refine⟨by simp[i1];omega,by simp[i2],?_⟩;intro x hx;rcases hX.1 hx with rfl|hx
   ·omega
   ·exact i3 x hx
  ·simp at h
theorem XU{S D e:da}{x:c9}{b ar off len:Nat}{k:AK}{d:List AV}{l:List Nat}(r:o.op= .convert S D x)(B:P.underlying S=some (.slice e))(y:P.underlying D=some .string)(A:P.underlying e=some (.int .u8))(hx:ρ x= .sl b ar 1 off len)
 (L:0<len)(j:off+len<=d.length)(hl:bytesOf ((d.drop off).take len)=some l):bA P o ρ base {v:=.p (.str l),al:=[(b,.arr k ar 1 d)]}:=by
 refine bA.same fun H w ad ai β M F I al=>?_;have q:H[b]?=some (.arr k ar 1 d):=by simpa using al
 have f:=(I x (by simp[r,hj])).1;rw[hx]at f;simp only[aA,bY,b7]at f;have n:¬dA k d:=fun h=>by rw[h.2]at j;simp at j;omega
 have f:=(f.2 _ _ q).2.2 n;rcases F.cX b _ q with hold|⟨cs,J,K,rest,k1,k2,k3,k4,k5,k6,k7,k8⟩
 ·exact(n hold).elim
 obtain⟨a,m,z,g1,g2,g3,g4,g5⟩:=kF k2 off len j;obtain⟨s,t,u⟩:=Er hl g2;have E:l.length=len:=by rw[t];simp;omega
 have C:cs.toList=a.flatten++(l.map (fun c=>hO .u8 (c:Nat))++(z.flatten++rest)):=by
  rw[k3,g1];simp only[ip,ih,s]
 have G:=run_convert_bytes_arg (P:=P) w S e B A (β.aq b) (off*1) len (β.cap b-off) (l.map fun c:Nat=>(c:Int)) (by simpa using E) (fun i hi=>by
  have g:i<l.length:=o_
  have:cs[off*1+i]?=some (.int .u8 (l[i]:Nat)):=by
   rw[<-b4,C,List.getElem?_append_right o_,g3,Nat.add_sub_cancel_left,iz (by simpa using g),j3,hZ g];rfl
  rw[List.getD_eq_getElem?_getD,j3,hZ g];simp only[hQ,k1];simpa using this) D y
 refine⟨.string (strOfNums (l.map fun c:Nat=>(c:Int))),?_,?_,by simp[aE]⟩
 ·simp only[dk,r,f];exact eX G
 ·simp only[aA,aC];refine⟨_,rfl,?_⟩;rw[strOfNums_data,i6,i6]
  conv=>lhs;rw[<-kk l]
  refine j1 fun c hc=>?_;have:=u c hc;simp[lv];omega
theorem Xk{c:Call}{x y:c9}{b ar n:Nat}{d:List AV}{l:List Nat}{T X:da}(F:o.op= .call c)(hc:c.callee= .builtin .unsafeString)(N:c.args.toList=[x,y])(aa:c.argTypes=#[T,X])(hx:ρ x= .ct b ar 1 0 [])(ac:ρ y= .p (.int .i64 n))
 (ag:0<n)(C:n<=d.length)(ah:n<=9223372036854775807)(M:P.underlying T=some (.pointer Gl.u8))(ab:P.cellsOf Gl.u8=1)(hl:bytesOf (d.take n)=some l):
 bA P o ρ base {v:=.p (.str l),al:=[(b,.arr .bytes ar 1 d)],aM:=[(b,.dead)]}:=by
 have s:c.args=#[x,y]:=by apply b3;simpa using N
 have D:x∈o.op.operands/\y∈o.op.operands:=by
  rw[F];simp[hj,gx,hc,s]
 intro H w ad ai β r G I al _;have q:H[b]?=some (.arr .bytes ar 1 d):=by simpa using al
 have e:=(I x D.1).1;have f:=(I y D.2).1;rw[hx]at e;rw[ac]at f;simp only[aA,bY,b7,aC]at e f;have i:¬dA .bytes d:=fun h=>by rw[h.2]at C;simp at C;omega
 obtain⟨_,aq,off,aj,W,E,e⟩:=e;simp[gT]at E;subst E;obtain⟨rfl,rfl⟩:=e _ _ q i;rcases G.cX b _ q with hold|⟨cs,ae,af,rest,k1,k2,k3,k4,k5,k6,k7,k8⟩
 ·exact(i hold).elim
 obtain rfl:=k8.2 rfl;have U:¬ad (β.aq b)/\¬ai (β.aq b):=by
  unfold cQ at k7;rw[if_neg s_]at k7;exact k7
 obtain⟨a,m,z,g1,g2,g3,g4,g5⟩:=kF k2 0 n o_;have O:a=[]:=by have:=(gu g4).1;simpa using this
 subst O;rw[j5]at g2;obtain⟨J,K,L⟩:=Er hl g2;obtain⟨bs,u⟩:∃bs:List UInt8,bs=l.map lz:=⟨_,rfl⟩
 have g:bs.length=n:=by rw[u];simp[K];omega
 have t:bs.map (·.toNat)=l:=by
  rw[u,i6]
  conv=>rhs;rw[<-kk l]
  refine j1 fun c hc=>?_;have:=L c hc;simp[lv];omega
 have A:cs.toList=bs.map (fun c=>hO .u8 c.toNat)++(z.flatten++rest):=by
  rw[k3,g1];simp only[i7,ip,ih,J];congr 1;rw[<-t,i6];rfl
 have Z:=Lib.run_unsafeString_row (P:=P) w T X o.type Gl.u8 M ab (β.aq b) cs.size (by simp[World.shape?,k1]) bs (fun h=>by rw[h]at g;simp at g;omega) (by
  have:=congrArg j4 A;simp only[b5,hT,kc]at this;omega) o_ (fun j v B=>by
  have V:j<bs.length:=(hR.1 B).1;rw[lE];have:cs[j]?=some (.int .u8 v.toNat):=by
   rw[<-b4,A,iz (by simpa using V),j3,B];rfl
  simp[hQ,k1,this])
 have Q:(dk r o).run P w=.ok (.value (.string ⟨bs.toArray⟩)) (w.freeze ⟨β.aq b,0,none⟩ bs.length):=by
  simp only[dk,F,resolve,hc,s];simp only[hF,hG,hD,invoke,builtin,i0,hV,h7];have key:(gc c.argTypes o.type #[r x,r y]).run P w=.ok (.string ⟨bs.toArray⟩) (w.freeze ⟨β.aq b,0,none⟩ bs.length):=by
   rw[aa,W,f,<-g];simpa using Z
  rw[key];rfl
 have S:∀k,k≠β.aq b->(w.freeze ⟨β.aq b,0,none⟩ bs.length).heap[k]?=w.heap[k]?:=by
  intro k hk;unfold hP
  split
  ·rfl
  ·simp[Array.getElem?_modify,le hk]
 have R:(w.freeze ⟨β.aq b,0,none⟩ bs.length).heap.size=w.heap.size:=by
  unfold hP
  split<;>simp
 have Y:=ate G q i U (fun _ h=>by cases h) R S (atz _ _ _);refine⟨_,_,_,β,ad,Q,.inl rfl,?_,?_,by simp[aE]⟩
 ·simpa only[newAt,hW,ba]using Y
 ·simp only[aA,aC];exact⟨_,rfl,by simpa using t.symm⟩
theorem Xh{c:Call}{x y:c9}{T X:da}(f:o.op= .call c)(hc:c.callee= .builtin .unsafeString)(i:c.args.toList=[x,y])(j:c.argTypes=#[T,X])(hx:ρ x= .p .dX)(k:ρ y= .p (.int .i64 0)):
 bA P o ρ base {v:=.p (.str [])}:=by
 have d:c.args=#[x,y]:=by apply b3;simpa using i
 have e:x∈o.op.operands/\y∈o.op.operands:=by
  rw[f];simp[hj,gx,hc,d]
 refine bA.same fun H w ad ai β h l g al=>?_;have a:=(g x e.1).1;have b:=(g y e.2).1;rw[hx]at a;rw[k]at b;simp only[aA,aC]at a b;refine⟨.string .empty,?_,by simp only[aA,aC];exact⟨_,rfl,rfl⟩,by simp[aE]⟩;simp only[dk,f,resolve,hc,d];simp only[hF,hG,hD,invoke,builtin,i0,hV,h7];have key:(gc c.argTypes o.type #[h x,h y]).run P w=.ok (.string .empty) w:=by
  rw[j,a,b];exact Lib.run_unsafeString_none w _ _ _ _
 rw[key];rfl
end
section
variable{P:db}
theorem FO{c:Call}{ρ:c9->AV}{x:AV}(a:c.args.toList.map ρ=[x]):∃y,c.args.toList=[y]/\ρ y=x:=by
 match b:c.args.toList with
 |[]=>rw[b]at a;simp at a
 |[y]=>rw[b]at a;simp at a;exact⟨y,rfl,a⟩
 |_::_::_=>rw[b]at a;simp at a
theorem MW{c:Call}(h:c.argTypes.size=2):∃T X,c.argTypes=#[T,X]:=by
 obtain⟨l,hl⟩:∃l,l=c.argTypes.toList:=⟨_,rfl⟩
 have d:l.length=2:=by rw[hl];simpa using h
 match l,d with
 |[a,b],_=>exact⟨a,b,by apply b3;simp[<-hl]⟩
theorem qg(ah:dl->Bool):mJ P ah:=by
 intro o ρ H K _ h;unfold fR at h;have plain:∀{e:aZ},K e->bA P o ρ H.length e->e.al=[]->e.aM=[]->∃e,K e/\bA P o ρ H.length e/\(∀p∈e.al,H[p.1]?=some p.2)/\(∀p∈e.aM,p.1<H.length/\p.2≠.hole):=by
  intro e A B C G;exact⟨e,A,B,by simp[C],by simp[G]⟩
 cases q:o.op<;>simp only[q]at h
 case move x=>exact plain h (Up (.inl q)) rfl rfl
 case assign x=>exact plain h (Up (.inr q)) rfl rfl
 case pick c a b=>
  split at h
  ·rename_i t hc;exact plain h (aPj q hc) rfl rfl
  ·exact h.elim
 case alloc T=>
  split at h
  ·rename_i z M;exact plain h.2.2.2 (avF q M h.2.2.1) rfl rfl
  ·exact h.elim
 case box T x=>exact plain h.2.2.2 (aPc q h.2.1 h.2.2.1) rfl rfl
 case build T parts=>
  split at h
  ·rename_i u z hk M
   split at h
   ·rename_i l hl;obtain⟨A,B,C⟩:=h;exact plain C (avE q hk M hl A B) rfl rfl
   ·exact h.elim
  ·exact h.elim
 case buildSlice T n parts=>
  split at h
  ·rename_i sz z U M;obtain⟨A,B,C,G⟩:=h;exact plain G (XI q U M A B C) rfl rfl
  ·exact h.elim
 case load T a=>exact aPh q h
 case store T a x=>exact avz q h
 case binOp b T x y aF=>
  obtain⟨v,A,B⟩:=aPb (base:=H.length) q h;exact⟨_,A,B,oN,s_⟩
 case unOp u T x=>
  split at h
  ·rename_i b hx;exact plain h (G2 q hx (.inl ⟨rfl,_,rfl,rfl⟩)) rfl rfl
  ·rename_i k n hx;exact plain h (G2 q hx (.inr (.inl ⟨rfl,_,_,rfl,rfl⟩))) rfl rfl
  ·rename_i k n hx;exact plain h (G2 q hx (.inr (.inr ⟨rfl,_,_,rfl,rfl⟩))) rfl rfl
  ·exact h.elim
 case convert S D x=>
  split at h
  ·rename_i d k k0 n aa Z hx;exact plain h (Ze q ⟨_,aa⟩ Z hx) rfl rfl
  ·rename_i d s aa Z hx;exact plain h (Zd q ⟨_,aa⟩ Z hx) rfl rfl
  ·rename_i e b ar ak off len aa Z hx
   split at h
   case h_2=>exact h.elim
   rename_i k ag ae R w;obtain⟨rfl,rfl,rfl,U,ai,hle,h⟩:=h
   split at h
   case h_2=>exact h.elim
   rename_i l hl;exact⟨_,h,XU q aa Z U hx ai hle hl,by simpa using w,s_⟩
  ·exact h.elim
 case extract t i=>
  split at h
  ·rename_i vs ao
   split at h
   ·rename_i v ap;exact plain h (MN q (.inr ⟨_,ao,rfl⟩) (by simp[ap])) rfl rfl
   ·exact h.elim
  ·rename_i vs ao
   split at h
   ·rename_i v ap;exact plain h (MN q (.inl ao) ap) rfl rfl
   ·exact h.elim
  ·exact h.elim
 case fieldAddr T a f=>
  obtain⟨e,A,B,C,G⟩:=XT (base:=H.length) q h;exact plain A B C G
 case indexAddr T x i=>
  obtain⟨e,A,B,C,G⟩:=XS (base:=H.length) q h;exact⟨e,A,B,C,by simp[G]⟩
 case field T x f=>
  split at h
  ·rename_i u fs t hk az hx;obtain⟨A,h⟩:=h
   split at h
   ·rename_i g F an aj;exact plain h.2 (avC q hk az hx A an aj h.1) rfl rfl
   ·exact h.elim
  ·exact h.elim
 case index T x i=>
  split at h
  ·rename_i s k n hx hi;obtain⟨A,B,C,G⟩:=h;exact plain G (YS q hx hi A B C) rfl rfl
  ·rename_i u R k n hx hi
   split at h
   ·rename_i u' m F g I aj an;obtain⟨rfl,ai,ab,hk,h⟩:=h;exact plain h (YT q I hx hi ai ab aj an hk) rfl rfl
   ·exact h.elim
  ·exact h.elim
 case makeFunc fn fi ca=>
  cases fn<;>simp only at h
  case func f=>
   obtain⟨m1,m2,m3⟩:=YR (ρ:=ρ) (base:=H.length) q
   split at h
   ·split at h
    ·rename_i a b al aM j am;obtain⟨q1,ac,aE⟩:=m3 H a b al aM j am;exact⟨_,h,q1,ac,aE⟩
    ·exact h.elim
   ·split at h
    ·rename_i a b j am;exact plain h (m1 a b j am) rfl rfl
    ·exact plain h m2 rfl rfl
 case makeSlice T l c=>
  split at h
  ·rename_i sz z aG c' U M hl hc;obtain⟨A,B,rfl,G,N⟩:=h;exact plain N (XR q U M hl hc A B G) rfl rfl
  ·exact h.elim
 case slice T x lo hi aA=>
  cases aA with
  |none=>
   obtain⟨e,A,B,C,G⟩:=avA (base:=H.length) q h;exact⟨e,A,B,C,by simp[G]⟩
  |some m=>
   obtain⟨e,A,B,C,G⟩:=asM (base:=H.length) q h;exact⟨e,A,B,C,by simp[G]⟩
 case makeMap T r=>
  cases r<;>simp only at h;exact plain h (Zc q) rfl rfl
 case lookup T x i ok=>
  split at h
  case h_2=>exact h.elim
  rename_i ad E key I hi
  split at h
  case h_2=>exact h.elim
  rename_i z M;obtain⟨hk,h⟩:=h
  split at h
  ·rename_i hx;exact plain h (xB (r:=none) (es:=[]) q I M hi hk rfl (.inl ⟨hx,rfl⟩)) rfl rfl
  ·rename_i R hx
   split at h
   ·rename_i v hl;exact plain h (xB (r:=some v) q I M hi hk hl (.inr (.inl hx))) rfl rfl
   ·rename_i hl;exact plain h (xB (r:=none) q I M hi hk hl (.inr (.inl hx))) rfl rfl
   ·exact h.elim
  ·rename_i b hx
   split at h
   case h_3=>exact h.elim
   ·rename_i fz R w
    split at h
    ·rename_i v hl;exact⟨_,h,xB (r:=some v) q I M hi hk hl (.inr (.inr ⟨b,fz,hx,s_⟩)),by simpa using w,s_⟩
    ·rename_i hl;exact⟨_,h,xB (r:=none) q I M hi hk hl (.inr (.inr ⟨b,fz,hx,s_⟩)),by simpa using w,s_⟩
    ·exact h.elim
   ·rename_i ks vs w;obtain⟨O,h⟩:=h
    split at h
    ·rename_i v hl;exact⟨_,h,IM (r:=some v) q I M hi hk O hl hx,by simpa using w,s_⟩
    ·rename_i hl;exact⟨_,h,IM (r:=none) q I M hi hk O hl hx,by simpa using w,s_⟩
    ·exact h.elim
  ·exact h.elim
 case mapUpdate T m k x=>
  split at h
  case h_3=>exact h.elim
  ·rename_i ad E b key v I V hk hx;obtain⟨hf,h⟩:=h
   split at h
   case h_3=>exact h.elim
   ·rename_i R w
    split at h
    case h_2=>exact h.elim
    rename_i r hl;exact⟨_,h,Lz (.inl q) I V hk hx hf hl,by simpa using w,by simpa using(hR.1 w).1⟩
   ·rename_i ks vs w;obtain⟨aq,au,j,O,hl,h⟩:=zx h;rw[<-hx]at h;exact⟨_,h,zw (.inl q) I V hk hf j O hl,by simpa using w,by simpa using(hR.1 w).1⟩
  ·rename_i ad E b key I V hk _;obtain⟨hf,h⟩:=h
   split at h
   case h_2=>exact h.elim
   rename_i aD w;obtain⟨aq,au,j,O,hl,h⟩:=zx h;exact⟨_,h,zw (.inl q) I V hk hf j O hl,by simpa using w,by simpa using(hR.1 w).1⟩
 case insert T m k x=>
  split at h
  case h_3=>exact h.elim
  ·rename_i ad E b key v I V hk hx;obtain⟨hf,h⟩:=h
   split at h
   case h_3=>exact h.elim
   ·rename_i R w
    split at h
    case h_2=>exact h.elim
    rename_i r hl;exact⟨_,h,Lz (.inr q) I V hk hx hf hl,by simpa using w,by simpa using(hR.1 w).1⟩
   ·rename_i ks vs w;obtain⟨aq,au,j,O,hl,h⟩:=zx h;rw[<-hx]at h;exact⟨_,h,zw (.inr q) I V hk hf j O hl,by simpa using w,by simpa using(hR.1 w).1⟩
  ·rename_i ad E b key I V hk _;obtain⟨hf,h⟩:=h
   split at h
   case h_2=>exact h.elim
   rename_i aD w;obtain⟨aq,au,j,O,hl,h⟩:=zx h;exact⟨_,h,zw (.inr q) I V hk hf j O hl,by simpa using w,by simpa using(hR.1 w).1⟩
 case range T x=>
  split at h
  ·rename_i s hx;exact plain h.2 (avB q hx h.1) rfl rfl
  ·exact h.elim
 case next it isStr=>
  cases isStr<;>simp only at h
  split at h
  case h_2=>exact h.elim
  rename_i b hx
  split at h
  case h_2=>exact h.elim
  rename_i s pos w;obtain⟨aB,aC⟩:=aPi (P:=P) (base:=H.length) (s:=s) (pos:=pos) q hx
  split at h
  ·rename_i W;exact⟨_,h,aB W,by simpa using w,by simpa using(hR.1 w).1⟩
  ·rename_i W;exact⟨_,h,aC W,by simpa using w,s_⟩
 case nilCheck x=>
  split at h
  ·rename_i b p hx;exact plain h (DQ q (.inl ⟨b,p,hx⟩)) rfl rfl
  ·rename_i b v e i p hx;exact plain h (DQ q (.inr (.inl ⟨b,v,e,i,p,hx⟩))) rfl rfl
  ·rename_i t hx;exact plain h (DQ q (.inr (.inr ⟨t,hx⟩))) rfl rfl
  ·exact h.elim
 case call c=>
  split at h
  case h_2=>exact h.elim
  rename_i b hc
  split at h
  ·rename_i x j
   split at h
   case h_2=>exact h.elim
   rename_i n al hl;obtain⟨A,B,C⟩:=h;obtain⟨y,L,rfl⟩:∃y,c.args.toList=[y]/\ρ y=x:=by
    match J:c.args.toList with
    |[]=>rw[J]at j;simp at j
    |[y]=>rw[J]at j;simp at j;exact⟨y,rfl,j⟩
    |_::_::_=>rw[J]at j;simp at j
   obtain⟨q1,ac⟩:=aPg (P:=P) (base:=H.length) q hc L hl A B;exact⟨_,C,q1,ac,s_⟩
  ·rename_i s x j;obtain⟨y,z,L,rfl,rfl⟩:∃y z,c.args.toList=[y,z]/\ρ y=s/\ρ z=x:=by
    match J:c.args.toList with
    |[]=>rw[J]at j;simp at j
    |[y]=>rw[J]at j;simp at j
    |[y,z]=>rw[J]at j;simp at j;exact⟨y,z,rfl,j.1,j.2⟩
    |_::_::_::_=>rw[J]at j;simp at j
   exact asP q hc L h.1 h.2
  ·rename_i k a r j
   split at h
   ·rename_i n ab;exact plain h (Na (isMax:=false) q hc j ab) rfl rfl
   ·exact h.elim
  ·rename_i k a r j
   split at h
   ·rename_i n ab;exact plain h (Na (isMax:=true) q hc j ab) rfl rfl
   ·exact h.elim
  ·rename_i d x j;obtain⟨y,z,L,ax,rfl⟩:∃y z,c.args.toList=[y,z]/\ρ y=d/\ρ z=x:=by
    match J:c.args.toList with
    |[]=>rw[J]at j;simp at j
    |[y]=>rw[J]at j;simp at j
    |[y,z]=>rw[J]at j;simp at j;exact⟨y,z,rfl,j.1,j.2⟩
    |_::_::_::_=>rw[J]at j;simp at j
   split at h
   case h_2=>exact h.elim
   rename_i sz b ar ak off len aH U hx;obtain⟨rfl,A,B,h⟩:=h
   split at h
   case h_2=>exact h.elim
   rename_i k ag ae R w;obtain⟨rfl,rfl,C,G,N,Y⟩:=h;refine⟨_,Y,aPe q hc L B U ax hx A C G N,?_,by simpa using(hR.1 w).1⟩;intro p W;rcases hX.1 W with rfl|W
   ·exact w
   ·exact oN p W
  ·rename_i x j;obtain⟨y,L,rfl⟩:=FO j
   split at h
   case h_2=>exact h.elim
   rename_i n al hl;obtain⟨A,B,C⟩:=h;obtain⟨q1,ac⟩:=aPd (P:=P) (base:=H.length) q hc L hl A B;exact⟨_,C,q1,ac,s_⟩
  ·rename_i x j;obtain⟨y,L,Q⟩:=FO j
   split at h
   ·rw[<-Q]at h;exact plain h.2.2 (XH q hc L Q h.1 h.2.1) rfl rfl
   ·split at h
    ·rename_i b ar ak off len sz z k ag ae R U M w;obtain⟨rfl,rfl,rfl,A,B,C,G,N,Y,aw⟩:=h;exact⟨_,aw,avD q hc L N U M A Q B C G Y,by simpa using w,by simpa using(hR.1 w).1⟩
    ·exact h.elim
   ·exact h.elim
  ·rename_i x j;obtain⟨y,L,Q⟩:=FO j
   split at h
   ·exact plain h (DS (H0:=H) q hc L (.inl ⟨Q,rfl,rfl⟩)) rfl rfl
   ·split at h
    ·rename_i b ar ak off len k ag ae R w;obtain⟨rfl,rfl,h⟩:=h;rcases h with⟨A,B,C⟩|⟨A,B,C⟩
     ·exact⟨_,C,DS q hc L (.inr ⟨_,_,_,_,_,_,_,Q,w,rfl,.inl ⟨⟨A,B⟩,rfl⟩⟩),by simpa using w,s_⟩
     ·exact⟨_,C,DS q hc L (.inr ⟨_,_,_,_,_,_,_,Q,w,rfl,.inr ⟨A,B,rfl⟩⟩),by simpa using w,s_⟩
    ·exact h.elim
   ·exact h.elim
  ·rename_i x n j;obtain⟨y,z,L,Q,av⟩:∃y z,c.args.toList=[y,z]/\ρ y=x/\ρ z=.p (.int .i64 n):=by
    match J:c.args.toList with
    |[]=>rw[J]at j;simp at j
    |[y]=>rw[J]at j;simp at j
    |[y,z]=>rw[J]at j;simp at j;exact⟨y,z,rfl,j.1,j.2⟩
    |_::_::_::_=>rw[J]at j;simp at j
   split at h
   ·obtain⟨rfl,A,B⟩:=h;obtain⟨T,X,af⟩:=MW A;exact plain B (Xh q hc L af Q av) rfl rfl
   ·split at h
    ·rename_i b ar ak i ag ae R w;obtain⟨rfl,rfl,rfl,rfl,A,B,C,G,N,Y,h⟩:=h;obtain⟨T,X,af⟩:=MW G
     split at h
     ·rename_i l hl;obtain⟨m,rfl⟩:=Int.eq_ofNat_of_zero_le (by omega:0<=n);simp only[Int.toNat_natCast]at B hl;have I:P.underlying T=some (.pointer Gl.u8):=by
       rw[af]at N;simp only[ptrTo]at N
       split at N
       ·rename_i e ay;simp at N;rw[<-N];exact ay
       ·simp at N
      exact⟨_,h,Xk q hc L af Q av o_ B o_ I Y hl,by simpa using w,by simpa using(hR.1 w).1⟩
     ·exact h.elim
    ·exact h.elim
   ·exact h.elim
  ·exact h.elim
end
section
variable{P:db}{ah:dl->Bool}{n:Nat}
theorem N1{o o':Obj}(h:ni o=some o'):ni o'=some o':=by
 unfold ni at h
 split at h
 ·simp at h;subst h;rfl
 ·rename_i k ar ak a
  split at h
  ·simp at h
  ·split at h
   ·rename_i l hl;simp at h;subst h;simp[ni,AK.gr,hl]
   ·simp at h
 ·simp at h;subst h;rfl
 ·simp at h
theorem aKW{w:dp}{ad ai:Nat->Prop}{β:Bd}{H:Heap}(d:cm P w ad β H ai){b:Nat}{o o':Obj}(c:H[b]?=some o)(hf:ni o=some o'):
 ∃aF,cj P ai ad w β H aF w β (H.set b o')/\aF (β.aq b):=by
 unfold ni at hf
 split at hf
 ·rename_i fz t;simp at hf;subst hf;obtain⟨cs,T,g,i,j,m⟩:=d.cX b _ c;have aN:cM β H β (H.set b (.box true (.p t))):=se c (.inl ⟨_,_,_,rfl,rfl⟩);exact sq d c trivial (o':=.box true (.p t)) trivial (fun _ h=>h) (fun _ h=>by cases h) aN j.tf
   (fun aF hi l=>⟨cs,T,g,bw.mono hi (fun _ _=>rfl) aN _ _ (by simp[aE]) i,l,fun _=>trivial,m.2⟩) (by simp[Obj.refs,aE])
 ·rename_i k ar ak f
  split at hf
  ·simp at hf
  ·rename_i q
   split at hf
   case h_2=>simp at hf
   rename_i C z;simp at hf;subst hf;have r:=mQ z;rcases d.cX b _ c with hold|⟨cs,T,u,rest,g,i,j,m,x,A,y,B⟩
   ·exact(q hold).elim
   have s:¬dA .frozen f:=fun h=>by cases h.1
   have aN:cM β H β (H.set b (.arr .frozen ar ak f)):=se c (.inr (.inl ⟨_,_,_,_,_,rfl,rfl,q,s⟩));exact sq d c q (o':=.arr .frozen ar ak f) s (fun _ h=>h) (fun _ h=>by cases h) aN y.tf
    (fun aF hi l=>.inr ⟨cs,T,u,rest,g,bX.mono hi (fun _ _=>rfl) aN _ _ _ (d.refs b _ c) i,j,m,x,(fun h=>by cases h),l,fun _ e n=>(by rw[r]at n;simp at n;obtain⟨a,_,rfl⟩:=n;trivial),fun h=>by cases h⟩)
    (by rw[r];exact jz _ _)
 ·rename_i fz f;simp at hf;subst hf;obtain⟨v,clock,g,i,j⟩:=d.cX b _ c;have aN:cM β H β (H.set b (.map true f)):=se c (.inr (.inr ⟨_,_,_,rfl,rfl⟩));exact sq d c trivial (o':=.map true f) trivial (fun _ h=>h) (fun _ h=>by cases h) aN j.tf
   (fun aF hi l=>⟨v,clock,g,cR.mono hi (fun _ _=>rfl) _ _ i,l⟩) trivial
 ·simp at hf
theorem Mg{w:dp}{ai:Nat->Prop}{β:Bd}{H0:Heap}:∀(bs:List Nat){al aM:List (Nat×Obj)}{H:Heap}{ad:Nat->Prop},mh H0 bs=some (al,aM)->cm P w ad β H ai->
 (∀p∈al,∃c,H[p.1]?=some c/\ni c=ni p.2)->∃aF,cj P ai ad w β H aF w β (ba H aM)/\∀b∈bs,aF (β.aq b)
 |[],al,aM,H,ad,h,a,_=>by
  simp[mh]at h;obtain⟨rfl,rfl⟩:=h;exact⟨ad,cj.refl a,s_⟩
 |b::bs,al,aM,H,ad,h,a,hc=>by
  simp only[mh]at h
  split at h
  case h_2=>simp at h
  rename_i o q s r g
  split at h
  case h_2=>simp at h
  rename_i o' hf;simp at h;obtain⟨rfl,rfl⟩:=h;obtain⟨c,g1,g2⟩:=hc (b,o) s_;simp only at g1 g2;rw[hf]at g2;obtain⟨n,e,l⟩:=aKW a g1 g2;have i:b<H.length:=(hR.1 g1).1;obtain⟨f,q1,m⟩:=Mg bs g e.rel (by
   intro p j;obtain⟨k,k1,k2⟩:=hc p (by simp[j])
   by_cases d:b=p.1
   ·rw[<-d]at k1⊢;rw[g1]at k1;cases k1;refine⟨o',by rw[hS i],?_⟩;rw[<-k2,g2,N1 g2]
   ·exact⟨k,by rw[h3 d];exact k1,k2⟩)
  refine⟨f,by simpa only[ba]using e.trans q1,?_⟩;intro x hx;rcases hX.1 hx with rfl|hx
  ·exact q1.cd _ l
  ·exact m x hx
theorem N2{H0:Heap}:∀(bs:List Nat){al aM:List (Nat×Obj)},mh H0 bs=some (al,aM)->(∀p∈al,H0[p.1]?=some p.2)/\(∀p∈aM,p.1<H0.length/\p.2≠.hole)/\al.map (·.1)=bs
 |[],al,aM,h=>by
  simp[mh]at h;obtain⟨rfl,rfl⟩:=h;simp
 |b::bs,al,aM,h=>by
  simp only[mh]at h
  split at h
  case h_2=>simp at h
  rename_i o f g d e
  split at h
  case h_2=>simp at h
  rename_i o' hf;simp at h;obtain⟨rfl,rfl⟩:=h;obtain⟨i1,i2,i3⟩:=N2 bs e;refine⟨?_,?_,by simp[i3]⟩
  ·intro p a;rcases hX.1 a with rfl|a
   ·exact d
   ·exact i1 p a
  ·intro p a;rcases hX.1 a with rfl|a
   ·refine⟨(hR.1 d).1,fun c=>?_⟩;simp only at c;have:=N1 hf;rw[c]at this;simp[ni]at this
   ·exact i2 p a
theorem avm{w:dp}{ad aF ai:Nat->Prop}{β:Bd}{H0 H:Heap}{a:AV}{pv:PV}{bs:List Nat}{v:dg}(d:nu H0 a=some (pv,bs))(al:∀b∈bs,H[b]?=H0[b]?)(n:cm P w ad β H ai)(e:aA P w ad β H a v)
 (hi:∀k,ad k->aF k)(r:∀b∈bs,aF (β.aq b)):aC P w aF pv v:=by
 cases a with
 |p t=>
  simp[nu]at d;obtain⟨rfl,rfl⟩:=d;simp only[aA]at e;exact aC.mono hi (fun _ _=>rfl) _ _ e
 |sl b ar ak off len=>
  simp only[nu]at d
  split at d
  case h_2=>simp at d
  rename_i k R M g l
  split at d
  case isFalse=>simp at d
  rename_i F;obtain⟨rfl,rfl,hl⟩:=F
  split at d
  ·simp at d
  ·rename_i y
   split at d
   case h_2=>simp at d
   rename_i z I;simp at d;obtain⟨rfl,rfl⟩:=d;have x:=mQ I;have f:H[b]?=some (.arr k ar ak g):=by rw[al b s_];exact l
   have j:=r b s_;simp only[aA,bY,b7]at e;obtain⟨v1,v2,v3⟩:=e.2 k g f;rcases n.cX b _ f with hold|⟨cs,T,A,rest,i,h,q,D,N,E,O,Q⟩
   ·exact(y hold).elim
   rw[v3 y];have J:Row P w aF β H ak g A:=bX.mono hi (fun _ _=>rfl) (cM.refl _ _) _ _ _ (n.refs b _ f) h;obtain⟨a,m,c,e1,e2,e3,e4,e5⟩:=kF J off len v1;rw[x,DM,mR]at e2;have u:((z.drop off).take len).length=len:=by
    have:g.length=z.length:=by rw[x];simp
    simp;omega
   simp only[aC];refine⟨β.aq b,off*ak,β.cap b-off,ak,m,e2,fun _=>j,?_,?_,?_,none,.inl rfl,?_⟩
   ·rw[<-e3];exact mL i (post:=c.flatten++rest) (by rw[q,e1];simp)
   ·intro hf;simp at hf;rw[u,E hf.1];omega
   ·rw[u];omega
   ·rw[u]
 |ptr b path=>
  simp only[nu]at d
  split at d
  case h_2=>simp at d
  rename_i fz t l
  split at d
  case h_2=>simp at d
  rename_i s hs;simp at d;obtain⟨rfl,rfl⟩:=d;have f:H[b]?=some (.box fz (.p t)):=by rw[al b s_];exact l
  have j:=r b s_;simp only[aA,bY,b7]at e;obtain⟨_,L,K,o,rfl,G,e⟩:=e;obtain⟨rfl,rfl⟩:=e (.inl ⟨fz,_,f⟩);obtain⟨cs,T,i,h,q,D⟩:=n.cX b _ f;have C:aY P w aF t cs.toList:=by simp only[bw]at h;exact aY.mono hi (fun _ _=>rfl) _ _ h
  obtain⟨pre,xs,post,e1,e2,e3⟩:=AU C hs G;simp only[aC];refine⟨β.aq b,K,xs,e3,j,?_,rfl⟩;rw[<-e2];exact mL i e1
 |map b=>
  simp only[nu]at d
  split at d
  case h_2=>simp at d
  rename_i fz g l;simp at d;obtain⟨rfl,rfl⟩:=d;have f:H[b]?=some (.map fz g):=by rw[al b s_];exact l
  have j:=r b s_;simp only[aA,bY,b7]at e;have e:=e.2.1 ⟨_,f,trivial⟩;obtain⟨B,clock,i,h,q⟩:=n.cX b _ f;simp only[aC];exact⟨β.aq b,B,clock,j,i,cR.mono hi (fun _ _=>rfl) _ _ h,e⟩
 |ct=>simp[nu]at d
 |func=>simp[nu]at d
 |st=>simp[nu]at d
 |aD=>simp[nu]at d
theorem NA{w:dp}{ad aF ai:Nat->Prop}{β:Bd}{H0 H:Heap}:∀{l:List AV}{vs:List PV}{bs:List Nat}{d:List dg},pG H0 l=some (vs,bs)->(∀b∈bs,H[b]?=H0[b]?)->cm P w ad β H ai->bC P w ad β H l d->
 (∀k,ad k->aF k)->(∀b∈bs,aF (β.aq b))->bu P w aF vs d
 |[],vs,bs,d,h,_,_,c,_,_=>by
  simp[pG]at h;obtain⟨rfl,rfl⟩:=h;simp only[bC]at c;simpa[bu]using c
 |a::l,vs,bs,d,h,al,f,c,hi,e=>by
  simp only[pG]at h
  split at h
  case h_2=>simp at h
  rename_i v m o n g i;simp at h;obtain⟨rfl,rfl⟩:=h;simp only[bC]at c;obtain⟨y,j,rfl,k1,k2⟩:=c;simp only[bu];exact⟨y,j,rfl,avm g (fun b hx=>al b (by simp[hx])) f k1 hi (fun b hx=>e b (by simp[hx])),NA i (fun b hx=>al b (by simp[hx])) f k2 hi (fun b hx=>e b (by simp[hx]))⟩
def Act(P:db)(n:Nat)(o:Oper)(s:St)(e:aZ):Prop:=
 ∀(fr:ej)(k:List Item)(cs:List ej)(a:Array Oper)(i:Nat)(r:List Nat)(b:List eo)(ai ad:Nat->Prop)(β:Bd)(s':St)(t:Array dg)(w:dp),
  a[i]?=some o->hz o (yielded a t)=true->jD n o=true->dc P n ai ad β s' t w->(∀x∈o.op.operands,ev s'.env x=ev s.env x)->
  (∀p∈e.al,s'.heap[p.1]?=some p.2)->(∀j,j<e.aX.length->s'.heap[s.heap.length+j]?=some .hole)->
  ∃aF aO c w',e9 P (lone (bG fr t b (.inRegion a (i::r)::k)) cs w) (lone (bG fr c b (.inRegion a r::k)) cs w')/\
   dc P n ai aF aO ⟨put o.dst e.v s'.env,ba s'.heap (e.aM++newAt s.heap.length e.aX)⟩ c w'/\∀N,ek N ai ad w β s'.heap ai aF w' aO (ba s'.heap (e.aM++newAt s.heap.length e.aX))
theorem Yo{o:Oper}{K:aZ->Prop}{s:St}(h:jU P ah o s K)(c:Call):o.op≠.defer c:=by
 intro hc;unfold jU at h;rw[hc]at h;simp[fR,hc]at h
theorem Rz{e e':Env}{l:List c9}(h:∀x∈l,ev e' x=ev e x):l.map (ev e')=l.map (ev e):=j1 h
theorem OZ{o:Oper}{f:c9}{H:Array c9}{ak:Array da}{g:dl}{fi ca:List AV}{K:aZ->Prop}{s:St}
 (W:o.op=.call {callee:=.value f,args:=H,argTypes:=ak})
 (hf:(ev s.env f=.func g fi ca)\/(∃a b,ev s.env f=.p (.func g a b)/\fi=a.map .p/\ca=b.map .p))
 (h:iO P g (fi++H.toList.map (ev s.env)++ca) s.heap K):
 ∃e,K e/\(∀p∈e.al,s.heap[p.1]?=some p.2)/\(∀p∈e.aM,p.1<s.heap.length/\p.2≠.hole)/\Act P n o s e:=by
 have Q:∀c,o.op≠.defer c:=fun c hc=>by rw[W]at hc;cases hc
 have ab:f∈o.op.operands/\∀x∈H.toList,x∈o.op.operands:=by
  rw[W];simp[hj,gx];exact fun x hx=>.inr hx
 have M:∀{ai ad:Nat->Prop}{β:Bd}{s':St}{t:Array dg}{w:dp},dc P n ai ad β s' t w->(∀x∈o.op.operands,ev s'.env x=ev s.env x)->
  ∃m:List dg,bC P w ad β s'.heap (fi++H.toList.map (ev s.env)++ca) m/\aV (aL s'.heap) (fi++H.toList.map (ev s.env)++ca)/\(dk (fS t) o).run P w=(callFunc g m.toArray).run P w:=by
  intro ai ad β s' t w d A;have I:=pB d f;rw[A f ab.1]at I;obtain⟨G,F,av,au,aq,aB,ay⟩:∃G F:List dg,fS t f=.func (.func g) G.toArray F.toArray/\bC P w ad β s'.heap fi G/\bC P w ad β s'.heap ca F/\aV (aL s'.heap) fi/\aV (aL s'.heap) ca:=by
   rcases hf with hf|⟨a,b,hf,rfl,rfl⟩
   ·rw[hf]at I;simp only[aA,aE]at I;obtain⟨⟨G,F,y,z,D⟩,S,ao⟩:=I;exact⟨G,F,D,y,z,S,ao⟩
   ·rw[hf]at I;simp only[aA,aC]at I;obtain⟨⟨G,F,y,z,D⟩,_⟩:=I;exact⟨G,F,D,ki.2 y,ki.2 z,jz _ _,jz _ _⟩
  obtain⟨Y,Z⟩:=xF d H.toList;rw[Rz (fun x hx=>A x (ab.2 x hx))]at Y Z;refine⟨G++H.toList.map (fS t)++F,ql (ql au Y) aq,kD (kD aB Z) ay,?_⟩;simp only[dk,W,resolve,av,Deferred.ofValue,hF,hG,hD,invoke];congr 2;simp
 have ah:∀(fr:ej)(k:List Item)(cs:List ej)(l:Array Oper)(i:Nat)(r:List Nat)(u:List eo)(ai ad E:Nat->Prop)(β:Bd)(s':St)(t:Array dg)(w:dp)(H1:Heap)(m:List dg)(vs:List PV)(v:PV),
  l[i]?=some o->hz o (yielded l t)=true->jD n o=true->dc P n ai ad β s' t w->(dk (fS t) o).run P w=(callFunc g m.toArray).run P w->
  cj P ai ad w β s'.heap E w β H1->bu P w E vs m->az P g vs v->
  ∃aF aO aj w',e9 P (lone (bG fr t u (.inRegion l (i::r)::k)) cs w) (lone (bG fr aj u (.inRegion l r::k)) cs w')/\
   dc P n ai aF aO ⟨put o.dst (.p v) s'.env,H1⟩ aj w'/\∀N,ek N ai ad w β s'.heap ai aF w' aO H1:=by
  intro fr k cs l i r u ai ad E β s' t w H1 m vs v q C B d O j af L;rcases L with⟨ar,L⟩|L
  ·rw[ar]at O;obtain⟨e,w',am,⟨R,aF,U,g1,g2,g3,g4,g5,an,g6⟩,aN,aw,V⟩:=L w E _ j.rel.cd j.rel.jG af (bG fr t u (.inRegion l (i::r)::k)::cs);subst U;have ae:=j.trans (j.rel.later g1 g2 g3 g4 g5 an);refine⟨aF,β,_,w',?_,d.put B ae (by simpa[aA]using g6) (by simp[aE]),fun _=>ae.fB⟩;rw[<-oP q];exact(hJ (xt q C Q O)).trans (hK aN (.one (eq V)))
  ·obtain⟨R,y,z⟩:=L w E _ af;rw[y]at O;exact⟨E,β,_,w,.one (ux q C Q O (.inl rfl)),d.put B j (by simpa[aA]using z) (by simp[aE]),fun _=>j.fB⟩
 rcases h with⟨vs,v,y,z,D⟩|⟨vs,bs,al,aM,v,y,z,D,S⟩|⟨e,X,ac,T⟩|⟨al,v,ap,ax,T⟩
 ·refine⟨_,D,s_,s_,?_⟩;intro fr k cs l i r u ai ad β s' t w q C B d A _ _;obtain⟨m,c1,c2,c3⟩:=M d A;rw[y]at c1;simp only[newAt,hW,ba];exact ah fr k cs l i r u ai ad ad β s' t w s'.heap m vs v q C B d c3 (cj.refl d.heap) (ki.1 c1) z
 ·obtain⟨i1,i2,i3⟩:=N2 bs z;refine⟨_,S,i1,i2,?_⟩;intro fr k cs l i r u ai ad β s' t w q C B d A J _;obtain⟨m,c1,c2,c3⟩:=M d A;obtain⟨E,ag,aD⟩:=Mg bs z d.heap (fun p j=>⟨p.2,J p j,rfl⟩);simp only[newAt,hW];refine ah fr k cs l i r u ai ad E β s' t w _ m vs v q C B d c3 ag (NA y ?_ d.heap c1 ag.cd aD) D;intro b aa;rw[<-i3]at aa;obtain⟨p,j,rfl⟩:=kh.1 aa;rw[J p j,i1 p j]
 ·refine⟨_,T,ac.1,ac.2,?_⟩;intro fr k cs l i r u ai ad β s' t w q C B d A J aX;obtain⟨m,c1,c2,c3⟩:=M d A;rw[X.1]at c3;obtain⟨x,w',am,⟨R,aO,aF,U,g1,g2,g3⟩,aN,aw,V⟩:=X.2 s'.heap w ad ai β _ d.heap c1 c2 J aX (bG fr t u (.inRegion l (i::r)::k)::cs);subst U;refine⟨aF,aO,_,w',?_,d.put B g1 g2 g3,fun _=>g1.fB⟩;rw[<-oP q];exact(hJ (xt q C Q c3)).trans (hK aN (.one (eq V)))
 ·refine⟨_,T,ax,s_,?_⟩;intro fr k cs l i r u ai ad β s' t w q C B d A J aX;obtain⟨m,c1,c2,c3⟩:=M d A;obtain⟨R,y,D⟩:=ap s'.heap w ad ai β _ d.heap c1 c2 J;rw[y]at c3;have j:=cj.refl d.heap;simp only[newAt,hW,ba];exact⟨ad,β,_,w,.one (ux q C Q c3 (.inl rfl)),d.put B j (by simpa[aA]using D) (by simp[aE]),fun _=>j.fB⟩
theorem Z2{o:Oper}{f:c9}{a:Array c9}{y:Array da}{b:Nat}{e:aZ}{s:St}
 (j:o.op=.call {callee:=.value f,args:=a,argTypes:=y})(hf:ev s.env f=.map b)(hY:vk P b (a.toList.map (ev s.env)) s.heap.length e):Act P n o s e:=by
 have G:∀c,o.op≠.defer c:=fun c hc=>by rw[j]at hc;cases hc
 have u:f∈o.op.operands/\∀x∈a.toList,x∈o.op.operands:=by
  rw[j];simp[hj,gx];exact fun x hx=>.inr hx
 intro fr k cs I i r z ai ad β s' t w v H C d m E aX;have h:=(pB d f).1;rw[m f u.1,hf]at h;simp only[aA,bY,b7]at h;obtain⟨l,p⟩:=xF d a.toList;rw[Rz (fun x hx=>m x (u.2 x hx))]at l p;obtain⟨F,g,tmps,assign,body,A,B⟩:=hY s'.heap w ad ai β _ d.heap l p E aX;have D:=h.2.2 F;have q:(dk (fS t) o).run P w=(Instr.yield (β.aq b) (a.toList.map (fS t)).toArray).run P w:=by
  simp only[dk,j,resolve,D,Deferred.ofValue,hF,hG,hD,invoke];congr 2;exact b3 s_
 rw[A]at q;obtain⟨J,w',aO,aF,g1,g2,g3,g4⟩:=B (bG fr t z (.inRegion I (i::r)::k)) cs;refine⟨aF,aO,_,w',?_,d.put C g2 g3 g4,fun _=>g2.fB⟩;rw[<-oP v];exact(hJ (MG v H G q)).trans g1
theorem auF(m:mJ P ah){o:Oper}{K:aZ->Prop}{s:St}(h:jU P ah o s K):
 ∃e,K e/\(∀p∈e.al,s.heap[p.1]?=some p.2)/\(∀p∈e.aM,p.1<s.heap.length/\p.2≠.hole)/\Act P n o s e:=by
 have E:=Yo h;have q:fR P ah o (ev s.env) s.heap K->∃e,K e/\(∀p∈e.al,s.heap[p.1]?=some p.2)/\(∀p∈e.aM,p.1<s.heap.length/\p.2≠.hole)/\Act P n o s e:=by
  intro h;obtain⟨e,a,hs,al,aM⟩:=m o _ _ _ (fun v=>rfl) h;refine⟨e,a,al,aM,?_⟩;intro fr k cs L i r J ai ad β s' t w F G C d B D aX;obtain⟨nx,I,w',aO,aF,u,y,j,z,A⟩:=hs s'.heap w ad ai β (fS t) d.heap (fun x hx=>by rw[<-B x hx];exact pB d x) D aX;exact⟨aF,aO,_,w',.one (ux F G E u y),d.put C j z A,fun _=>j.fB⟩
 unfold jU at h
 split at h
 ·rename_i f args H c
  split at h
  ·rename_i g fi ca hf;exact OZ c (.inr ⟨fi,ca,hf,rfl,rfl⟩) h
  ·rename_i g fi ca hf;exact OZ c (.inl hf) h
  ·rename_i b hf;obtain⟨e,hY,l,a⟩:=h;exact⟨e,a,l.1,l.2,Z2 c hf hY⟩
  ·exact h.elim
 ·exact q h
end
section
variable{P:db}{ah:dl->Bool}{n:Nat}
def looks(a:Array Oper)(o:Oper):List Tmp:=
 (o.op.operands.toList.filterMap fun x=>match x with
  | .tmp t=>some t
  |_=>none)++(match o.guard with
  |some (j,_)=>(match(a[j]?).bind (·.dst)with
   |some d=>[d]
   |none=>[])
  |none=>[])
def sx(c:Array Oper)(a b:Oper):Bool:=
 (match a.dst with
  |some d=>(looks c b).contains d||b.dst==some d
  |none=>false)||
 (match b.dst with
  |some d=>(looks c a).contains d
  |none=>false)
def fit(_:Nat)(a:Array Oper):Bool:=
 (i5 a.size).all fun j=>match a[j]? with
  |some o=>o.after.toList.all (fun e=>!hA .any e||decide (e.on<j))&&
   (i5 j).all (fun i=>match a[i]? with
    |some u=>!sx a u o||reach a a.size i j
    |none=>true)
  |none=>true
structure F0(P:db)(n:Nat)(ops:Array Oper)(o:Oper)(s:St)(e:aZ):Prop where
 al:∀p∈e.al,s.heap[p.1]?=some p.2
 aM:∀p∈e.aM,p.1<s.heap.length
 act:(∀(t:Array dg)(s':St)(ai ad:Nat->Prop)(β:Bd)(w:dp),dc P n ai ad β s' t w->(∀x∈looks ops o,aS s'.env x=aS s.env x)->hz o (yielded ops t)=true)/\Act P n o s e\/
  (∀(t:Array dg)(s':St)(ai ad:Nat->Prop)(β:Bd)(w:dp),dc P n ai ad β s' t w->(∀x∈looks ops o,aS s'.env x=aS s.env x)->hz o (yielded ops t)=false)/\e={v:=.p (.aD [])}
inductive Tr(P:db)(n:Nat)(ops:Array Oper):List Oper->Nat->St->List (St×aZ)->St->Prop
 |nil (i:Nat) (s:St):Tr P n ops [] i s [] s
 |cons {o:Oper} {r:List Oper} {i:Nat} {s s':St} {e:aZ} {es:List (St×aZ)}:F0 P n ops o s e->Tr P n ops r (i+1) (e.app o.dst s) es s'->Tr P n ops (o::r) i s ((s,e)::es) s'
def qC(i:Nat):List (St×aZ)->List Touch->List Touch
 |[],acc=>acc
 |(s,e)::r,acc=>qC (i+1) r (iI i s.heap.length e acc)
theorem DL{a:Array Oper}{o:Oper}{j:Nat}{f:Bool}(c:o.guard=some (j,f)){e e':Env}(h:∀x∈looks a o,aS e' x=aS e x):guardOf a j e'=guardOf a j e:=by
 unfold guardOf;cases b:(a[j]?).bind (·.dst)with
 |none=>rfl
 |some d=>
  simp only;exact h d (by simp[looks,c,b])
theorem Om(B:mJ P ah){a:Array Oper}(q:∀o∈a.toList,jD n o=true):∀(l:List Oper)(i:Nat)(d:List Touch)(s:St){K:St->Prop},(∀o∈l,o∈a.toList)->gV P ah a l i d K s->
 ∃c s',Tr P n a l i s c s'/\K s'/\lB a (qC i c d)=true
 |[],i,d,s,K,_,h=>⟨[],s,.nil i s,h.2,h.1⟩
 |o::l,i,d,s,K,hl,h=>by
  have C:=fun d s(h:gV P ah a l (i+1) d K s)=>Om B q l (i+1) d s (fun o F=>hl o (by simp[F])) h
  have skip:gV P ah a l (i+1) d K ⟨put o.dst (.p (.aD [])) s.env,s.heap⟩->(∀(t:Array dg)(s':St)(ai ad:Nat->Prop)(β:Bd)(w:dp),dc P n ai ad β s' t w->(∀x∈looks a o,aS s'.env x=aS s.env x)->hz o (yielded a t)=false)->
   ∃c s',Tr P n a (o::l) i s c s'/\K s'/\lB a (qC i c d)=true:=by
   intro hk A;obtain⟨c,s',r,u,y⟩:=C _ _ hk;refine⟨(s,{v:=.p (.aD [])})::c,s',.cons ⟨s_,s_,.inr ⟨A,rfl⟩⟩ ?_,u,by simpa[qC,iI]using y⟩;simpa[aZ.app,ba]using r
  have go:jU P ah o s (fun e=>gV P ah a l (i+1) (iI i s.heap.length e d) K (e.app o.dst s))->(∀(t:Array dg)(s':St)(ai ad:Nat->Prop)(β:Bd)(w:dp),dc P n ai ad β s' t w->(∀x∈looks a o,aS s'.env x=aS s.env x)->hz o (yielded a t)=true)->
   ∃c s',Tr P n a (o::l) i s c s'/\K s'/\lB a (qC i c d)=true:=by
   intro hk A;obtain⟨e,D,al,aM,E⟩:=auF (n:=n) B hk;obtain⟨c,s',r,u,y⟩:=C _ _ D;exact⟨(s,e)::c,s',.cons ⟨al,fun p G=>(aM p G).1,.inl ⟨A,E⟩⟩ r,u,by simpa[qC]using y⟩
  simp only[gV]at h
  split at h
  ·rename_i f;exact go h (fun _ _ _ _ _ _ _ _=>by simp[hz,f])
  ·rename_i j H f
   split at h
   ·rename_i b m
    split at h
    ·rename_i z;refine go h (fun t s' ai ad β w k g=>?_);obtain⟨g1,g2⟩:=Ak k q j;rw[DL f g]at g1;simp[hz,f,g1 _ m,z]
    ·rename_i z;refine skip h (fun t s' ai ad β w k g=>?_);obtain⟨g1,g2⟩:=Ak k q j;rw[DL f g]at g1;simp[hz,f,g1 _ m,z]
   ·rename_i m;refine skip h (fun t s' ai ad β w k g=>?_);obtain⟨g1,g2⟩:=Ak k q j;rw[DL f g]at g2;simp[hz,f,g2 m]
   ·exact h.elim
def yw(a:Array Oper)(D:Nat->Prop):Prop:=∀j o,a[j]?=some o->D j->∀e∈o.after,hA .any e=true->D e.on
theorem DX{c:Array Oper}{D:Nat->Prop}(hc:yw c D):∀(f i j:Nat),reach c f i j=true->(∀o,c[j]?=some o->∀e∈o.after,hA .any e=true->D e.on)->D i
 |0,_,_,h,_=>by simp[reach]at h
 |f+1,i,j,h,d=>by
  simp only[reach]at h
  split at h
  case h_2=>simp at h
  rename_i o g;simp only[c6,ik,cy,beq_iff_eq,decide_eq_true_eq]at h;rcases h with⟨e,b,a,rfl⟩|⟨e,b,⟨a,_⟩,k⟩
  ·exact d o g e (by simpa using b) a
  ·have m:=d o g e (by simpa using b) a;exact DX hc f i e.on k (fun o' p e' n l=>hc _ o' p m e' n l)
end
section
variable{P:db}{ah:dl->Bool}{n:Nat}
theorem uG(a:Nat)(l:List Obj):(newAt a l).map (·.1)=po a l:=by
 induction l generalizing a with
 |nil=>rfl
 |cons o l b=>simp[newAt,po,b]
theorem LK{a b:Nat}{l:List Obj}:b∈po a l↔a<=b/\b<a+l.length:=by
 induction l generalizing a with
 |nil=>simp[po]
 |cons o l c=>simp only[po,hX,c,List.length_cons];omega
theorem Av{l:List (Nat×Obj)}{b:Nat}(h:b∉l.map (·.1)):∀H:Heap,(ba H l)[b]?=H[b]?:=by
 induction l with
 |nil=>intro H;rfl
 |cons p l a=>
  obtain⟨c,o⟩:=p;intro H;simp only[hV,hX,not_or]at h;simp only[ba];rw[a h.2,h3 (le h.1)]
theorem ZD{l:List (Nat×Obj)}{b:Nat}(h:b∈l.map (·.1)):∀H H':Heap,H.length=H'.length->(ba H l)[b]?=(ba H' l)[b]?:=by
 induction l with
 |nil=>simp at h
 |cons p l e=>
  obtain⟨c,o⟩:=p;intro H H' hl;simp only[ba]
  by_cases a:b∈l.map (·.1)
  ·exact e a _ _ (by simp[hl])
  ·rw[Av a,Av a];simp only[hV,hX]at h;have:b=c:=h.resolve_right a;subst this
   by_cases d:b<H.length
   ·rw[hS d,hS o_]
   ·rw[i9 (by simp;omega),i9 (by simp;omega)]
def dC(es:List (St×aZ))(s':St)(k:Nat):St:=match es[k]? with
 |some (s,_)=>s
 |none=>s'
def fT(es:List (St×aZ))(k:Nat):aZ:=match es[k]? with
 |some (_,e)=>e
 |none=>{v:=.p .undef}
theorem Tr.at{a:Array Oper}:∀{l:List Oper}{i:Nat}{s s':St}{es:List (St×aZ)},Tr P n a l i s es s'->es.length=l.length/\dC es s' 0=s/\
 ∀k o,l[k]?=some o->F0 P n a o (dC es s' k) (fT es k)/\dC es s' (k+1)=(fT es k).app o.dst (dC es s' k)
 |_,_,_,_,_,.nil i s=>⟨rfl,rfl,fun k o h=>by simp at h⟩
 |_,_,_,_,_,.cons (o:=o) (r:=r) (i:=i) (s:=s) (s':=s') (e:=e) (es:=es) hi d=>by
  obtain⟨h1,b,c⟩:=d.at;refine⟨by simp[h1],rfl,fun k o' hk=>?_⟩;cases k with
  |zero=>
   simp at hk;subst hk;refine⟨by simpa[dC,fT]using hi,?_⟩;have:dC ((s,e)::es) s' (0+1)=dC es s' 0:=by simp[dC]
   rw[this,b];simp[dC,fT]
  |succ k=>
   have e1:∀m,dC ((s,e)::es) s' (m+1)=dC es s' m:=fun m=>by simp[dC]
   have e2:fT ((s,e)::es) (k+1)=fT es k:=by simp[fT]
   rw[e1,e1,e2];exact c k o' (by simpa using hk)
theorem Yy(u:Touch)(i:Nat):jQ u ⟨i,[],[]⟩=false:=by
 simp[jQ]
theorem Ye(i b:Nat)(e:aZ)(a:List Touch):(iI i b e a=a/\iU i b e=⟨i,[],[]⟩)\/iI i b e a=iU i b e::a:=by
 unfold iI
 split
 ·rename_i c d f;exact .inl ⟨rfl,by simp[iU,c,d,f,po]⟩
 ·exact .inr rfl
theorem MF{c:Array Oper}:∀(g:List (St×aZ))(i:Nat)(d:List Touch),lB c (qC i g d)=true->lB c d=true/\
 (∀u∈d,∀b s e,g[b]?=some (s,e)->jQ u (iU (i+b) s.heap.length e)=true->reach c c.size u.i (i+b)=true)/\
 (∀a b s e f e2,a<b->g[a]?=some (s,e)->g[b]?=some (f,e2)->jQ (iU (i+a) s.heap.length e) (iU (i+b) f.heap.length e2)=true->reach c c.size (i+a) (i+b)=true)
 |[],i,d,h=>⟨h,s_,s_⟩
 |(s,e)::g,i,d,h=>by
  simp only[qC]at h;obtain⟨j,m,r⟩:=MF g (i+1) _ h
  have key:lB c d=true/\(∀u∈d,jQ u (iU i s.heap.length e)=true->reach c c.size u.i i=true)/\(∀u∈d,∀b s e,g[b]?=some (s,e)->jQ u (iU (i+1+b) s.heap.length e)=true->reach c c.size u.i (i+1+b)=true)/\
   (∀b f e2,g[b]?=some (f,e2)->jQ (iU i s.heap.length e) (iU (i+1+b) f.heap.length e2)=true->reach c c.size i (i+1+b)=true):=by
   rcases Ye i s.heap.length e d with⟨o,q⟩|o
   ·rw[o]at j m;refine⟨j,fun u _ hc=>?_,m,fun b f e2 _ hc=>?_⟩
    ·rw[q,Yy]at hc;cases hc
    ·rw[q]at hc;simp[jQ]at hc
   ·rw[o]at j m;simp only[lB,cy,h8]at j;refine⟨j.2,fun u l hc=>?_,fun u l=>m u (by simp[l]),m _ s_⟩;have:=j.1 u l;rw[hc]at this;exact(by simpa using this:reach c c.size u.i (iU i s.heap.length e).i=true)
  obtain⟨k1,k2,k3,k4⟩:=key;refine⟨k1,?_,?_⟩
  ·intro u l b p e1 k hc;cases b with
   |zero=>simp at k;obtain⟨rfl,rfl⟩:=k;exact k2 u l hc
   |succ b=>
    have:=k3 u l b p e1 (by simpa using k);rw[show i+(b+1)=i+1+b by omega]at hc⊢;exact this hc
  ·intro a b p e1 f e2 t n k hc;cases b with
   |zero=>omega
   |succ b=>
    rw[show i+(b+1)=i+1+b by omega]at hc⊢;cases a with
    |zero=>
     simp at n;obtain⟨rfl,rfl⟩:=n;exact k4 b f e2 (by simpa using k) hc
    |succ a=>
     rw[show i+(a+1)=i+1+a by omega]at hc⊢;exact r a b p e1 f e2 o_ (by simpa using n) (by simpa using k) hc
end
section
variable{P:db}{ah:dl->Bool}{n:Nat}
def hx(N:Nat)(s:St):Heap:=s.heap++hU (N-s.heap.length) .hole
def wo(a:Nat)(e:aZ):List Nat:=(e.aM++newAt a e.aX).map (·.1)
theorem aLp{N:Nat}{s:St}{e:aZ}{o:Oper}(aM:∀p∈e.aM,p.1<s.heap.length)(c:(e.app o.dst s).heap.length<=N):hx N (e.app o.dst s)=ba (hx N s) (e.aM++newAt s.heap.length e.aX):=by
 have hl:(e.app o.dst s).heap=ba s.heap e.aM++e.aX:=rfl;have d:(e.app o.dst s).heap.length=s.heap.length+e.aX.length:=by rw[hl];simp[qf]
 unfold hx;rw[hl];have b:N-s.heap.length=e.aX.length+(N-(s.heap.length+e.aX.length)):=o_
 rw[b,<-List.replicate_append_replicate,<-ih,z6 _ _ _ (by
  intro p a;rcases i8.1 a with a|a
  ·have:=aM p a;simp;omega
  ·have:p.1∈(newAt s.heap.length e.aX).map (·.1):=j8 a
   rw[uG,LK]at this;simp;omega)]
 rw[DI,z6 _ _ _ aM];have:=DW (ba s.heap e.aM) e.aX;rw[qf]at this;rw[this];congr 2;simp[qf]
section sched
variable{ops:Array Oper}{es:List (St×aZ)}{s0 s':St}
structure jE(P:db)(n:Nat)(ops:Array Oper)(es:List (St×aZ))(s':St):Prop where
 len:es.length=ops.size
 at_:∀k o,ops[k]?=some o->F0 P n ops o (dC es s' k) (fT es k)/\dC es s' (k+1)=(fT es k).app o.dst (dC es s' k)
 dst:∀o∈ops.toList,jD n o=true
 lower:∀j o,ops[j]?=some o->∀e∈o.after,hA .any e=true->e.on<j
 tmps:∀i j u o,i<j->ops[i]?=some u->ops[j]?=some o->sx ops u o=true->reach ops ops.size i j=true
 heap:∀i j,i<j->j<ops.size->jQ (iU i (dC es s' i).heap.length (fT es i)) (iU j (dC es s' j).heap.length (fT es j))=true->reach ops ops.size i j=true
def wr(a:List (St×aZ))(s':St)(i:Nat):List Nat:=wo (dC a s' i).heap.length (fT a i)
structure At(ops:Array Oper)(es:List (St×aZ))(s':St)(D:Nat->Prop)(s:St):Prop where
 tmp:∀x,∃k,k<=ops.size/\aS s.env x=aS (dC es s' k).env x/\∀i o,ops[i]?=some o->o.dst=some x->(D i↔i<k)
 len:s.heap.length=s'.heap.length
 heap:∀b,∃k,k<=ops.size/\s.heap[b]?=(hx s'.heap.length (dC es s' k))[b]?/\∀i,i<ops.size->b∈wr es s' i->(D i↔i<k)
variable(h:jE P n ops es s')
include h
theorem jE.mono:∀{k m:Nat},k<=m->m<=ops.size->(dC es s' k).heap.length<=(dC es s' m).heap.length:=by
 intro k m e f
 induction m with
 |zero=>
  obtain rfl:k=0:=o_
  exact km _
 |succ m c=>
  by_cases hk:k=m+1
  ·subst hk;exact km _
  ·have d:=c o_ o_;have b:ops[m]?=some ops[m]:=b2 o_;obtain⟨_,a⟩:=h.at_ m _ b;rw[a];simp only[aZ.app,hT,qf];omega
theorem jE.last:dC es s' ops.size=s':=by
 have:es[ops.size]?=none:=i9 (by rw[h.len];exact km _);simp[dC,this]
theorem jE.yY{k:Nat}(hk:k<=ops.size):(dC es s' k).heap.length<=s'.heap.length:=by
 have:=h.mono hk (km _)
 rwa [h.last]at this
theorem jE.iM{k:Nat}(hk:k<ops.size):hx s'.heap.length (dC es s' (k+1))=ba (hx s'.heap.length (dC es s' k)) ((fT es k).aM++newAt (dC es s' k).heap.length (fT es k).aX):=by
 have c:ops[k]?=some ops[k]:=b2 hk;obtain⟨h1,b⟩:=h.at_ k _ c;have a:=h.yY (k:=k+1) hk;rw[b]at a⊢;exact aLp h1.aM a
theorem aLo{k:Nat}(hk:k<=ops.size):(hx s'.heap.length (dC es s' k)).length=s'.heap.length:=by
 have:=h.yY hk;simp[hx];omega
theorem jE.On{x:Nat}:∀{k m:Nat},k<=m->m<=ops.size->(∀i o,k<=i->i<m->ops[i]?=some o->o.dst≠some x)->aS (dC es s' m).env x=aS (dC es s' k).env x:=by
 intro k m j
 induction m with
 |zero=>
  intro _ _;obtain rfl:k=0:=o_
  rfl
 |succ m g=>
  intro l d
  by_cases hk:k=m+1
  ·subst hk;rfl
  ·have e:=g o_ o_ (fun i o a b=>d i o a o_);have c:ops[m]?=some ops[m]:=b2 o_;obtain⟨_,f⟩:=h.at_ m _ c;rw[f];simp only[aZ.app,xD];rw[if_neg (d m _ o_ o_ c)];exact e
theorem jE.NW{b:Nat}:∀{k m:Nat},k<=m->m<=ops.size->(∀i,k<=i->i<m->b∉wr es s' i)->(hx s'.heap.length (dC es s' m))[b]?=(hx s'.heap.length (dC es s' k))[b]?:=by
 intro k m f
 induction m with
 |zero=>
  intro _ _;obtain rfl:k=0:=o_
  rfl
 |succ m e=>
  intro g c
  by_cases hk:k=m+1
  ·subst hk;rfl
  ·have d:=e o_ o_ (fun i a b=>c i a o_);rw[h.iM o_,Av (c m o_ o_)];exact d
theorem jE.PE{x:Nat}{k m:Nat}(hk:k<=ops.size)(g:m<=ops.size)(f:∀i o,ops[i]?=some o->o.dst=some x->(i<k↔i<m)):aS (dC es s' m).env x=aS (dC es s' k).env x:=by
 rcases lc k m with d|d
 ·exact h.On d g fun i o a b e c=>by have:=f i o e c;omega
 ·exact(h.On d hk fun i o a b e c=>by have:=f i o e c;omega).symm
theorem jE.Pp{b:Nat}{k m:Nat}(hk:k<=ops.size)(g:m<=ops.size)(f:∀i,i<ops.size->b∈wr es s' i->(i<k↔i<m)):(hx s'.heap.length (dC es s' m))[b]?=(hx s'.heap.length (dC es s' k))[b]?:=by
 rcases lc k m with e|e
 ·exact h.NW e g fun i a c d=>by have:=f i o_ d;omega
 ·exact(h.NW e hk fun i a c d=>by have:=f i o_ d;omega).symm
variable{D:Nat->Prop}(hc:yw ops D)
include hc
theorem jE.order{i:Nat}{o:Oper}(k:ops[i]?=some o)(h:¬D i)(l:∀e∈o.after,hA .any e=true->D e.on):
 (∀j,j<i->reach ops ops.size j i=true->D j)/\(∀j,j<ops.size->i<j->reach ops ops.size i j=true->¬D j):=by
 constructor
 ·intro j g b;exact DX hc _ _ _ b (fun o' a=>by rw[k]at a;cases a;exact l)
 ·intro j m g b d;exact h (DX hc _ _ _ b (fun o' a e f c=>hc j o' a d e f c))
theorem jE.reads{i:Nat}{o:Oper}(l:ops[i]?=some o)(q:¬D i)(y:∀e∈o.after,hA .any e=true->D e.on){s:St}(t:At ops es s' D s):
 (∀x∈looks ops o,aS s.env x=aS (dC es s' i).env x)/\(∀b,b∈(fT es i).al.map (·.1)\/b∈wr es s' i->s.heap[b]?=(hx s'.heap.length (dC es s' i))[b]?):=by
 obtain⟨v,w⟩:=h.order hc l q y;have hi:i<ops.size:=(b1.1 l).1;constructor
 ·intro x hx;obtain⟨k,k1,k2,k3⟩:=t.tmp x;rw[k2];refine h.PE o_ k1 fun j u m p=>?_;have g:j<ops.size:=(b1.1 m).1;rw[<-k3 j u m p];constructor
  ·intro a;refine v j a (h.tmps j i u o a m l ?_);simp[sx,p,hx]
  ·intro f;rcases kp j i with a|rfl|a
   ·exact a
   ·exact(q f).elim
   ·exact(w j g a (h.tmps i j o u a l m (by simp[sx,p,hx])) f).elim
 ·intro b c;obtain⟨k,k1,k2,k3⟩:=t.heap b;rw[k2];refine h.Pp o_ k1 fun j g n=>?_;rw[<-k3 j g n];have r:b∈(iU j (dC es s' j).heap.length (fT es j)).wr:=by
   unfold wr wo at n;rw[h5,uG]at n;exact n
  have d:b∈(iU i (dC es s' i).heap.length (fT es i)).rd\/b∈(iU i (dC es s' i).heap.length (fT es i)).wr:=by
   rcases c with c|c
   ·exact .inl c
   ·unfold wr wo at c;rw[h5,uG]at c;exact .inr c
  constructor
  ·intro a;refine v j a (h.heap j i a hi ?_);simp only[jQ,c6,ik,ii];exact .inl ⟨b,r,d⟩
  ·intro f;rcases kp j i with a|rfl|a
   ·exact a
   ·exact(q f).elim
   ·refine(w j g a (h.heap i j a g ?_) f).elim;simp only[jQ,c6,ik,ii];rcases d with d|d
    ·exact .inr ⟨b,d,r⟩
    ·exact .inl ⟨b,d,.inr r⟩
theorem jE.next{i:Nat}{o:Oper}(l:ops[i]?=some o)(z:¬D i)(A:∀e∈o.after,hA .any e=true->D e.on){s:St}(p:At ops es s' D s):
 At ops es s' (fun j=>D j\/j=i) ⟨put o.dst (fT es i).v s.env,ba s.heap ((fT es i).aM++newAt (dC es s' i).heap.length (fT es i).aX)⟩:=by
 obtain⟨w,y⟩:=h.order hc l z A;have hi:i<ops.size:=(b1.1 l).1;obtain⟨B,iM⟩:=h.at_ i o l;refine⟨fun x=>?_,by simp only[qf];exact p.len,fun b=>?_⟩
 ·by_cases hx:o.dst=some x
  ·refine⟨i+1,hi,?_,fun j u d n=>?_⟩
   ·rw[iM];simp[aZ.app,xD,hx]
   ·have g:j<ops.size:=(b1.1 d).1;constructor
    ·rintro(c|rfl)
     ·rcases kp j i with a|rfl|a
      ·omega
      ·omega
      ·exact(y j g a (h.tmps i j o u a l d (by simp[sx,n,hx])) c).elim
     ·omega
    ·intro a
     by_cases q:j=i
     ·exact .inr q
     ·exact .inl (w j o_ (h.tmps j i u o o_ d l (by simp[sx,n,hx])))
  ·obtain⟨k,k1,k2,k3⟩:=p.tmp x;refine⟨k,k1,?_,fun j u d n=>?_⟩
   ·simp only[xD];rw[if_neg hx];exact k2
   ·rw[<-k3 j u d n];constructor
    ·rintro(c|rfl)
     ·exact c
     ·rw[l]at d;cases d;exact(hx n).elim
    ·exact .inl
 ·by_cases f:b∈wr es s' i
  ·refine⟨i+1,hi,?_,fun j g m=>?_⟩
   ·rw[h.iM hi];exact ZD f _ _ (by rw[aLo h o_];exact p.len)
   ·have t:b∈(iU j (dC es s' j).heap.length (fT es j)).wr:=by
     unfold wr wo at m;rw[h5,uG]at m;exact m
    have r:b∈(iU i (dC es s' i).heap.length (fT es i)).wr:=by
     unfold wr wo at f;rw[h5,uG]at f;exact f
    constructor
    ·rintro(c|rfl)
     ·rcases kp j i with a|rfl|a
      ·omega
      ·omega
      ·refine(y j g a (h.heap i j a g ?_) c).elim;simp only[jQ,c6,ik,ii];exact .inl ⟨b,r,.inr t⟩
     ·omega
    ·intro a
     by_cases q:j=i
     ·exact .inr q
     ·refine .inl (w j o_ (h.heap j i o_ hi ?_));simp only[jQ,c6,ik,ii];exact .inl ⟨b,t,.inr r⟩
  ·obtain⟨k,k1,k2,k3⟩:=p.heap b;refine⟨k,k1,?_,fun j g m=>?_⟩
   ·simp only;rw[Av f];exact k2
   ·rw[<-k3 j g m];constructor
    ·rintro(c|rfl)
     ·exact c
     ·exact(f m).elim
    ·exact .inl
end sched
end
section
variable{P:db}{ah:dl->Bool}{n:Nat}
variable{ops:Array Oper}{es:List (St×aZ)}{s':St}
theorem dc.congr{ai ad:Nat->Prop}{β:Bd}{s u:St}{t:Array dg}{w:dp}(h:dc P n ai ad β s t w)(b:∀x,aS u.env x=aS s.env x)(a:u.heap=s.heap):dc P n ai ad β u t w:=by
 refine⟨by rw[a];exact h.heap,fun x=>?_,fun x=>?_,h.size⟩
 ·rw[b,a];exact h.env x
 ·rw[b,a];exact h.iy x
theorem dc.n9{ai ad:Nat->Prop}{β:Bd}{s:St}{t:Array dg}{w:dp}(m:Nat)(h:dc P n ai ad β s t w):dc P n ai ad β ⟨s.env,s.heap++hU m .hole⟩ t w:=
 ⟨h.heap.n9 m,fun x=>aA.mono (fun _ x=>x) (fun _ _=>rfl) (qh β s.heap m) _ _ (h.iy x) (h.env x),fun x=>aE.mono (nM _ _) _ (h.iy x),h.size⟩
theorem av7{o:Oper}{e e':Env}(h:∀x∈looks ops o,aS e' x=aS e x):∀x∈o.op.operands,ev e' x=ev e x:=by
 intro x hx;cases x with
 |tmp t=>
  simp only[ev];refine h t ?_;simp only[looks,i8,List.mem_filterMap];exact .inl ⟨.tmp t,by simpa using hx,rfl⟩
 |_=>rfl
theorem jE.run(h:jE P n ops es s'){D:Nat->Prop}(hc:yw ops D){i:Nat}{o:Oper}(a:ops[i]?=some o)(x:¬D i)(z:∀e∈o.after,hA .any e=true->D e.on){s:St}(m:At ops es s' D s)
 {fr:ej}{k:List Item}{cs:List ej}{r:List Nat}{ds:List eo}{ai ad:Nat->Prop}{β:Bd}{t:Array dg}{w:dp}(b:dc P n ai ad β s t w):
 ∃u aF aO d w',e9 P (lone (bG fr t ds (.inRegion ops (i::r)::k)) cs w) (lone (bG fr d ds (.inRegion ops r::k)) cs w')/\dc P n ai aF aO u d w'/\(∀N,ek N ai ad w β s.heap ai aF w' aO u.heap)/\At ops es s' (fun j=>D j\/j=i) u:=by
 obtain⟨g,A⟩:=h.reads hc a x z m;have hi:i<ops.size:=(b1.1 a).1;obtain⟨v,_⟩:=h.at_ i o a;have c:=h.next hc a x z m;have q:jD n o=true:=h.dst o (by rw[Array.mem_toList_iff];exact Array.mem_of_getElem? a);have H:=h.yY (k:=i) o_;rcases v.act with⟨f,C⟩|⟨f,E⟩
 ·obtain⟨aF,aO,d,w',B,a2,a3⟩:=C fr k cs ops i r ds ai ad β s t w a (f t s ai ad β w b g) q b (av7 g) (by
   intro p y;rw[A p.1 (.inl (j8 y))];have:=v.al p y;unfold hx;rw[iz (hR.1 this).1];exact this) (by
   intro j G;have F:(dC es s' i).heap.length+j∈wr es s' i:=by
    unfold wr wo;rw[h5,uG];exact List.mem_append_right _ (LK.2 ⟨o_,o_⟩)
   rw[A _ (.inr F)];have l:=h.yY (k:=i+1) o_;rw[(h.at_ i o a).2]at l;simp only[aZ.app,hT,qf]at l;unfold hx;rw[lx,if_neg o_,if_pos o_])
  exact⟨_,aF,aO,d,w',B,a2,a3,c⟩
 ·rw[E]at c;simp only[newAt,hW,ba]at c;exact⟨_,ad,β,_,w,.one (Nl a (f t s ai ad β w b g)),b.put q (cj.refl b.heap) (by simp[aA,aC,bu,undef]) (by simp[aE]),fun _=>ek.refl _ _ _ _ _ _,c⟩
def isDone(a:Array Bool)(i:Nat):Prop:=a.getD i false=true
theorem Mr{p:Nat->Bool}{i:Nat}:∀{l:List Nat},l.Nodup->i∈l->p i=true->l.countP p=l.countP (fun x=>p x&&x !=i)+1
 |[],_,h,_=>by simp at h
 |a::l,c,h,d=>by
  rw[List.nodup_cons]at c
  by_cases b:a=i
  ·subst b;have e:l.countP (fun x=>p x&&x !=a)=l.countP p:=by
    refine j9 fun x hx=>?_;have:x≠a:=fun e=>c.1 (e▸hx);simp[this]
   simp[d,e]
  ·have f:i∈l:=by
    rcases hX.1 h with h|h
    ·exact(b h.symm).elim
    ·exact h
   have g:=Mr c.2 f d;rw[kb,kb,g];have:(a !=i)=true:=by simpa using b
   simp only[this,Bool.and_true];omega
def left(b:Array Oper)(a:Array Bool):Nat:=(i5 b.size).countP fun i=>!a.getD i true
theorem jE.goes(h:jE P n ops es s'){fr:ej}{k:List Item}{cs:List ej}{ds:List eo}{ai:Nat->Prop}:∀(c b:Nat)(a:Array Bool)(s:St)(ad:Nat->Prop)(β:Bd)(t:Array dg)(w:dp),a.size=ops.size->left ops a<=c->yw ops (isDone a)->
 At ops es s' (isDone a) s->dc P n ai ad β s t w->
 ∃u D aF aO Q w',e9 P (lone (bG fr t ds (.inRegion ops (hC .any ops c b a [])::k)) cs w) (lone (bG fr Q ds (.inRegion ops []::k)) cs w')/\dc P n ai aF aO u Q w'/\(∀N,ek N ai ad w β s.heap ai aF w' aO u.heap)/\At ops es s' D u/\∀j,j<ops.size->D j:=by
 have L:∀(a:Array Bool),a.size=ops.size->hw .any ops a=[]->∀j,j<ops.size->isDone a j:=by
  intro a q f j
  induction j using kP with
  |_ j K=>
   intro d
   by_cases A:isDone a j
   ·exact A
   ·exfalso;have G:j<a.size:=by omega
    have:j∈hw .any ops a:=by
     rw[e6];refine⟨?_,ops[j],b2 d,fun e B z=>?_⟩
     ·unfold isDone at A;simp only[ce,b2 G,ll]at A⊢;simpa using A
     ·have H:=h.lower j _ (b2 d) e B z;exact K e.on H o_
    rw[f]at this;simp at this
 intro c
 induction c with
 |zero=>
  intro b a s ad β t w q hl hc y C;have f:hw .any ops a=[]:=by
   rw[List.eq_nil_iff_forall_not_mem];intro j d;rw[e6]at d;obtain⟨g,o,m,_⟩:=d;have G:j<ops.size:=(b1.1 m).1;have:0<left ops a:=by
    unfold left;rw[List.countP_pos_iff];exact⟨j,by simpa using G,by rw[g];rfl⟩
   omega
  exact⟨s,isDone a,ad,β,t,w,by simp only[hC,List.reverse_nil];exact hL _ _,C,fun _=>ek.refl _ _ _ _ _ _,y,L a q f⟩
 |succ c K=>
  intro b a s ad β t w q hl hc y C;have aa:hC .any ops (c+1) b a []=(match(hw .any ops a)[b% (hw .any ops a).length]? with
   |some i=>hC .any ops c (b/(hw .any ops a).length) (a.setIfInBounds i true) [i]
   |none=>[].reverse):=rfl
  rw[aa];cases hi:(hw .any ops a)[b% (hw .any ops a).length]? with
  |none=>
   have f:hw .any ops a=[]:=by
    cases f:hw .any ops a with
    |nil=>rfl
    |cons x xs=>
     rw[f]at hi;have H:b% (x::xs).length<(x::xs).length:=Nat.mod_lt _ s_;rw[hZ H]at hi;cases hi
   exact⟨s,isDone a,ad,β,t,w,hL _ _,C,fun _=>ek.refl _ _ _ _ _ _,y,L a q f⟩
  |some i=>
   simp only;rw[linearise_go_acc,List.reverse_singleton,List.singleton_append];have ae:=List.mem_of_getElem? hi;obtain⟨g,o,m,O⟩:=e6.1 ae;have ab:i<ops.size:=(b1.1 m).1;have E:i<a.size:=o_
   have af:¬isDone a i:=by
    unfold isDone;simp only[ce,b2 E,ll]at g⊢;simp[g]
   obtain⟨u,R,aj,t1,ag,T,a2,a3,a4⟩:=h.run (fr:=fr) (k:=k) (cs:=cs) (ds:=ds) (r:=hC .any ops c (b/(hw .any ops a).length) (a.setIfInBounds i true) []) hc m af O y C;have M:(fun j=>isDone a j\/j=i)=isDone (a.setIfInBounds i true):=by
    funext j
    unfold isDone
    by_cases F:j=i
    ·subst F;simp[E]
    ·have:(a.setIfInBounds i true).getD j false=a.getD j false:=e8 false (le F);rw[this];simp[F]
   rw[M]at a4;have Z:yw ops (isDone (a.setIfInBounds i true)):=by
    rw[<-M];intro j o' I d e B z;rcases d with d|rfl
    ·exact .inl (hc j o' I d e B z)
    ·rw[m]at I;cases I;exact .inl (O e B z)
   have ac:left ops (a.setIfInBounds i true)<=c:=by
    have al:=Mr (p:=fun j=>!a.getD j true) (i:=i) (l:=i5 ops.size) List.nodup_range (by simpa using ab) (by show(!a.getD i true)=true;rw[g];rfl);have:left ops (a.setIfInBounds i true)=(i5 ops.size).countP (fun x=>!a.getD x true&&x !=i):=by
     unfold left;refine j9 fun x hx=>?_
     by_cases J:x=i
     ·subst J;simp[E]
     ·have:(a.setIfInBounds i true).getD x true=a.getD x true:=e8 true (le J);rw[this];simp[J]
    unfold left at hl;omega
   obtain⟨v,D,S,ak,t2,ah,U,V,W,X,Y⟩:=K (b/(hw .any ops a).length) (a.setIfInBounds i true) u R aj t1 ag (by simpa using q) ac Z a4 a2;exact⟨v,D,S,ak,t2,ah,T.trans U,V,fun N=>(a3 N).trans (W N),X,Y⟩
theorem av5(h:fit n ops=true):(∀j o,ops[j]?=some o->∀e∈o.after,hA .any e=true->e.on<j)/\
 (∀i j u o,i<j->ops[i]?=some u->ops[j]?=some o->sx ops u o=true->reach ops ops.size i j=true):=by
 unfold fit at h;rw[h8]at h;constructor
 ·intro j o a e f c;have b:j<ops.size:=(b1.1 a).1;have:=h j (by simpa using b);rw[a]at this;simp only[cy,h8]at this;have:=this.1 e (by simpa using f);simpa[c]using this
 ·intro i j u o g k a d;have b:j<ops.size:=(b1.1 a).1;have:=h j (by simpa using b);rw[a]at this;simp only[cy,h8]at this;have:=this.2 i (by simpa using g);rw[k]at this;simpa[d]using this
theorem Ag(C:mJ P ah)(Z:P.follows .mixedOrders=true):uJ P ah fit:=by
 intro n N a fr k cs F f K s ai ad β t w T B h aa;obtain⟨es,s',I,J,M⟩:=Om C B a.toList 0 [] s (fun _ h=>h) h;obtain⟨t1,t2,t3⟩:=I.at;obtain⟨_,_,O⟩:=MF es 0 [] M;obtain⟨f1,f2⟩:=av5 (n:=n) T;have X:es.length=a.size:=by simpa using t1
 have hs:jE P n a es s':=by
  refine⟨X,fun k o c=>t3 k o (by simpa using c),B,f1,f2,fun i j U ag v=>?_⟩;have hi:i<es.length:=o_
  have A:j<es.length:=o_
  have G:es[i]?=some (es[i].1,es[i].2):=by simp[hZ hi]
  have H:es[j]?=some (es[j].1,es[j].2):=by simp[hZ A]
  have:=O i j es[i].1 es[i].2 es[j].1 es[j].2 U G H;simp only[kw]at this;refine this ?_;have g:dC es s' i=es[i].1/\fT es i=es[i].2:=by simp[dC,fT,hZ hi]
  have q:dC es s' j=es[j].1/\fT es j=es[j].2:=by simp[dC,fT,hZ A]
  rw[g.1,g.2,q.1,q.2]at v;exact v
 have V:=hs.yY (k:=0) (kN _);rw[t2]at V;obtain⟨m,Y⟩:∃m,m=s'.heap.length-s.heap.length:=⟨_,rfl⟩
 have ab:=aa.n9 m;have Q:∀N,ek N ai ad w β s.heap ai ad w β (s.heap++hU m .hole):=fun N=>⟨fun _ x=>x,fun _ x=>x,fun _ x=>.inl x,Ext.refl _ _ _,(qh _ _ _).n,fun x _=>nM _ _ x,fun b _⟨L,r⟩=>⟨L,by rw[lx,if_pos (hR.1 r).1];exact r⟩⟩
 have ac:hB (P.follows .mixedOrders) a f=hC .any a a.size f (cb a.size false) []:=by
  simp[hB,Z,Region.linearise]
 have e:∀i,¬isDone (cb a.size false) i:=by
  intro i hi;unfold isDone at hi
  by_cases z:i<a.size
  ·simp[z]at hi
  ·simp[z]at hi
 have R:At a es s' (isDone (cb a.size false)) ⟨s.env,s.heap++hU m .hole⟩:=by
  refine⟨fun x=>⟨0,kN _,by rw[t2],fun i o _ _=>⟨fun h=>(e i h).elim,fun h=>by omega⟩⟩,by simp;omega,fun b=>⟨0,kN _,by rw[t2];unfold hx;rw[<-Y],fun i _ _=>⟨fun h=>(e i h).elim,fun h=>by omega⟩⟩⟩
 have W:left a (cb a.size false)<=a.size:=by
  unfold left;have:=List.countP_le_length (p:=fun i=>!(cb a.size false).getD i true) (l:=i5 a.size);simpa using this
 obtain⟨u,D,aF,aO,af,w',E,a2,a3,a4,a5⟩:=hs.goes (fr:=fr) (k:=k) (cs:=cs) (ds:=F) a.size f (cb a.size false) _ ad β t w s_ W (fun j o c d=>(e j d).elim) R ab;rw[ac];have S:∀x,aS s'.env x=aS u.env x:=by
  intro x;obtain⟨k,k1,k2,k3⟩:=a4.tmp x;rw[k2];have:=hs.PE (x:=x) k1 (km a.size) (fun i o c d=>by
   have hi:i<a.size:=(b1.1 c).1;have:=(k3 i o c d).1 (a5 i hi);exact⟨fun _=>hi,fun _=>this⟩)
  rw[hs.last]at this;exact this
 have y:s'.heap=u.heap:=by
  apply List.ext_getElem?;intro b;obtain⟨k,k1,k2,k3⟩:=a4.heap b;rw[k2];have:=hs.Pp (b:=b) k1 (km a.size) (fun i hi ae=>by
   have:=(k3 i hi ae).1 (a5 i hi);exact⟨fun _=>hi,fun _=>this⟩)
  rw[hs.last]at this;rw[<-this];simp[hx]
 exact⟨s',aF,aO,af,w',J,E,a2.congr S y,(Q N).trans (y▸a3 N)⟩
end
section
variable{P:db}
structure au(P:db)(f:dl)(fn:Func):Prop where
 func:P.funcs[f]?=some fn
 stat:(fn.body.isSome&&(fn.name != "runtime.NumGoroutine")&&codeOk fit fn.ntmps (fn.body.getD .skip))=true
theorem i_{P:db}{n:dl}{fn:Func}(h:P.funcs[n]?=some fn)(k:(fn.body.isSome&&(fn.name != "runtime.NumGoroutine")&&codeOk fit fn.ntmps (fn.body.getD .skip))=true:=by kernel_rfl):au P n fn:=⟨h,k⟩
theorem au.enters{f:dl}{fn:Func}(h:au P f fn):Enters P f:=by
 intro args w;have hs:=h.stat;simp only[cy,bne_iff_ne]at hs;cases a:fn.body with
 |none=>rw[a]at hs;simp at hs
 |some c=>simp[callFunc,h.func,hs.1.2,a]
def Ends(P:db)(a:List ei)(v:PV)(e:bD)(s:St):Prop:=
 (match e with
  | .exit _=>False
  |_=>True)/\∃vs,fX P s a=some vs/\eQ s.heap 9 (oneOf vs)=some v
theorem Ci{f:dl}{fn:Func}(ah:dl->Bool)(h:au P f fn)(b:P.follows .mixedOrders=true){args:List PV}{v:PV}(c:args.length<=fn.ntmps)
 (d:cC P ah (fn.ntmps,0) (fn.body.getD .skip) (Ends P fn.results.toList v) ⟨jo 0 (args.map .p),[]⟩):az P f args v:=by
 have hs:=h.stat;simp only[cy,bne_iff_ne]at hs;have a:fn.body=some (fn.body.getD .skip):=by
  have:=hs.1.1;cases e:fn.body<;>simp_all
 exact .inl (ON (qg ah) (Ag (qg ah) b) h.enters h.func a hs.2 c d)
class aRn(P:db)(f:dl)(args:List PV)(pre:outParam Prop)(v:outParam PV):Prop where
 Ci:pre->az P f args v
section calls
variable{f:dl}{H:Heap}{pre:Prop}{v:PV}
end calls
def tJ(e:Env):Env->Prop
 |[]=>True
 |(x,v)::r=>aS e x=v/\tJ e r
def lJ:Heap->Heap->Prop
 |_,[]=>True
 |[],.hole::t=>lJ [] t
 |_::h,.hole::t=>lJ h t
 |o::h,o'::t=>o=o'/\lJ h t
 |[],_::_=>False
theorem tJ.get{e:Env}:∀{t:Env},tJ e t->∀x,aS t x=aS e x\/aS t x=.p .undef
 |[],_,x=>.inr rfl
 |(y,v)::t,h,x=>by
  simp only[tJ]at h;simp only[aS]
  split
  ·rename_i hx;subst hx;exact .inl h.1.symm
  ·exact tJ.get h.2 x
theorem lJ.get:∀{h t:Heap},lJ h t->∀(b:Nat)(o:Obj),t[b]?=some o->o=.hole\/h[b]?=some o
 |_,[],_,b,o,a=>by simp at a
 |[],o'::t,hk,b,o,a=>by
  cases o'<;>simp only[lJ]at hk;cases b with
  |zero=>simp at a;exact .inl a.symm
  |succ b=>exact(lJ.get hk b o (by simpa using a)).imp id (fun h=>by simp at h)
 |c::h,o'::t,hk,b,o,a=>by
  cases b with
  |zero=>
   simp at a;cases o'<;>simp only[lJ]at hk
   case hole=>exact .inl a.symm
   all_goals exact .inr (by rw[<-a,<-hk.1];simp)
  |succ b=>
   have:lJ h t:=by cases o'<;>simp only[lJ]at hk<;>first|exact hk|exact hk.2
   exact(lJ.get this b o (by simpa using a)).imp id (fun h=>by simpa using h)
def iZ(H:Heap):Env->Prop
 |[]=>True
 |(_,v)::r=>aE (aL H) v/\iZ H r
def eg(H:Heap):Heap->Prop
 |[]=>True
 |o::r=>o.refs (aL H)/\eg H r
theorem iZ.get{H:Heap}:∀{e:Env},iZ H e->∀x,aE (aL H) (aS e x)
 |[],_,x=>by simp[aS,aE]
 |(y,v)::e,h,x=>by
  simp only[iZ]at h;simp only[aS]
  split
  ·exact h.1
  ·exact iZ.get h.2 x
theorem eg.get{H:Heap}:∀{h:Heap},eg H h->∀(b:Nat)(o:Obj),h[b]?=some o->o.refs (aL H)
 |[],_,b,o,a=>by simp at a
 |c::h,hr,b,o,a=>by
  simp only[eg]at hr;cases b with
  |zero=>simp at a;subst a;exact hr.1
  |succ b=>exact eg.get hr.2 b o (by simpa using a)
theorem qS.of{s t:St}(a:tJ s.env t.env)(c:lJ s.heap t.heap)(e:iZ t.heap t.env)(f:eg t.heap t.heap):qS s t:=
 ⟨fun x=>(a.get x).imp id .inl,fun b o d=>(c.get b o d).imp id .inl,e.get,f.get⟩
theorem cW.of{N:Nat}{s t:St}(e:t.heap.take N=s.heap.take N)(c:tJ s.env t.env)(d:lJ s.heap t.heap)(hr:iZ t.heap t.env)(hr2:eg t.heap t.heap):cW N s t:=by
 refine .inr ⟨qS.of c d hr hr2,fun b a=>?_⟩;have:=congrArg (fun l:Heap=>l[b]?) e;simpa[List.getElem?_take,a]using this
theorem Td{f:dl}{fn:Func}(ah:dl->Bool)(h:au P f fn)(b:P.follows .mixedOrders=true){args:List AV}{H H':Heap}{v:AV}(c:args.length<=fn.ntmps)
 (d:cC P ah (fn.ntmps,H.length) (fn.body.getD .skip) (vD P fn.results.toList H.length H' v) ⟨jo 0 args,H⟩):b8 P f H args H' v:=by
 have hs:=h.stat;simp only[cy,bne_iff_ne]at hs;have a:fn.body=some (fn.body.getD .skip):=by
  have:=hs.1.1;cases e:fn.body<;>simp_all
 exact av4 (qg ah) (Ag (qg ah) b) h.enters h.func a hs.2 c d
theorem Te(ah:dl->Bool)(f:P.follows .mixedOrders=true){b:Nat}{L:ey}{H H':Heap}{args:List AV}{v:AV}(d:H[b]?=some (.loop L))(e:args.length=L.params.length)
 (a:(L.params.all (fun x=>decide (x<L.n))&&codeOk fit L.n L.assign&&codeOk fit L.n L.body)=true)(g:AY P ah L b args H (fun c h=>h=v/\cW H.length ⟨[],c⟩ ⟨[],H'⟩)):gX P b H args H' v:=by
 simp only[cy,h8,decide_eq_true_eq]at a;exact av2 (qg ah) (Ag (qg ah) f) d e a.1.1 a.1.2 a.2 g
theorem again{N:Nat}{α:Type}{mk:α->St}{ok:α->Prop}{m:α->Nat}{n:Nat}{s':St}(a':α)(c:m a'<n)(d:ok a')(e:cW N s' (mk a')):∃a b,a<n/\cW N s' b/\∃a',ok a'/\b=mk a'/\a=m a':=
 ⟨m a',mk a',c,e,a',d,rfl,rfl⟩
end
section
variable{P:db}{ah:dl->Bool}
def aW{α:Type}(F:(α->Prop)->Prop):Prop:=∀K,F K->∃a,K a/\∀b:α->Prop,b a->F b
theorem aW.one{α β:Type}(f:β->α)(b:β):aW (fun K:α->Prop=>K (f b)):=fun _ h=>⟨f b,h,fun _ h=>h⟩
theorem aW.false{α:Type}:aW (fun _:α->Prop=>False):=fun _ h=>h.elim
theorem aW.and{α:Type}{p:Prop}{F:(α->Prop)->Prop}(h:aW F):aW (fun K=>p/\F K):=fun K hk=>by
 obtain⟨a,c,d⟩:=h K hk.2;exact⟨a,c,fun b h=>⟨hk.1,d b h⟩⟩
theorem aW.ex{α:Type}{β:Sort _}{F:β->(α->Prop)->Prop}(h:∀b,aW (F b)):aW (fun K=>∃b,F b K):=fun K⟨b,f⟩=>by
 obtain⟨a,d,e⟩:=h b K f;exact⟨a,d,fun c h=>⟨b,e c h⟩⟩
theorem aW.or{α:Type}{F G:(α->Prop)->Prop}(h:aW F)(e:aW G):aW (fun K=>F K\/G K):=fun K hk=>by
 rcases hk with hk|hk
 ·obtain⟨a,c,d⟩:=h K hk;exact⟨a,c,fun b h=>.inl (d b h)⟩
 ·obtain⟨a,c,d⟩:=e K hk;exact⟨a,c,fun b h=>.inr (d b h)⟩
theorem aW.ite{α:Type}{p:Prop}[Decidable p]{F G:(α->Prop)->Prop}(h:aW F)(f:aW G):aW (fun K=>if p then F K else G K):=fun K hk=>by
 split at hk
 ·rename_i e;obtain⟨a,c,d⟩:=h K hk;exact⟨a,c,fun b h=>by simpa[e]using d b h⟩
 ·rename_i e;obtain⟨a,c,d⟩:=f K hk;exact⟨a,c,fun b h=>by simpa[e]using d b h⟩
theorem aW.bind{α β:Type}{F:(α->Prop)->Prop}{G:α->(β->Prop)->Prop}(h:aW F)(d:∀a,aW (G a)):aW (fun K=>F (fun a=>G a K)):=fun K hk=>by
 obtain⟨a,e,f⟩:=h _ hk;obtain⟨b,g,i⟩:=d a K e;exact⟨b,g,fun c h=>f _ (i c h)⟩
theorem aW.map{α β:Type}{F:(α->Prop)->Prop}(h:aW F)(f:α->β):aW (fun K=>F (fun a=>K (f a))):=h.bind fun a=>aW.one f a
theorem ZW(T:da)(H:Heap)(a:AV):aW (pF P T H a):=by
 unfold pF
 repeat' first
  |exact aW.false
  |exact aW.one id _
  |refine aW.and ?_
  |refine aW.ex fun _=>?_
  |split
theorem ZA(T:da)(H:Heap)(a x:AV):aW (pg P T H a x):=by
 unfold pg
 repeat' first
  |exact aW.false
  |exact aW.one id _
  |refine aW.and ?_
  |refine aW.ex fun _=>?_
  |split
theorem Xo(T:da)(a:AV)(f:Nat):aW (oV P T a f):=by
 unfold oV
 repeat' first
  |exact aW.false
  |exact aW.one id _
  |refine aW.and ?_
  |refine aW.ex fun _=>?_
  |split
theorem Xn(T:da)(H:Heap)(a i:AV):aW (oU P T H a i):=by
 unfold oU
 repeat' first
  |exact aW.false
  |exact aW.one id _
  |refine aW.and ?_
  |refine aW.ex fun _=>?_
  |split
theorem X8(T X:da)(H:Heap)(s x:AV):aW (oZ P T X H s x):=by
 unfold oZ
 repeat' first
  |exact aW.false
  |exact aW.one id _
  |refine aW.and ?_
  |refine aW.ex fun _=>?_
  |refine aW.ite ?_ ?_
  |split
theorem Ot{α:Type}{F:Nat->(α->Prop)->Prop}(x:Option AV)(d:Nat)(h:∀n,aW (F n)):aW (fun K=>ir x d (fun n=>F n K)):=by
 unfold ir
 split
 ·exact h _
 ·exact aW.and (h _)
 ·exact aW.false
theorem ZC(T:da)(H:Heap)(x:AV)(lo hi a:Option AV):aW (ph P T H x lo hi a):=by
 unfold ph;refine aW.and ?_
 repeat' first
  |exact aW.false
  |exact aW.one id _
  |refine aW.and ?_
  |refine Ot _ _ fun _=>?_
  |refine aW.ite ?_ ?_
  |split
theorem X7(T:da)(H:Heap)(x:AV)(lo hi:Option AV)(m:AV):aW (sy P T H x lo hi m):=by
 unfold sy
 repeat' first
  |exact aW.false
  |exact aW.one id _
  |refine aW.and ?_
  |refine Ot _ _ fun _=>?_
  |split
theorem au4(op:dz)(T:da)(c:Bool)(H:Heap)(x y:AV)(f:PV->aZ):aW (fun K:aZ->Prop=>lI P op T c H x y (fun v=>K (f v))):=by
 unfold lI
 repeat' first
  |exact aW.false
  |exact aW.one f _
  |refine aW.and ?_
  |(unfold qX;split)
  |(unfold qW;split)
  |split
theorem VQ(a:da)(b:Nat)(key:PV)(x:AV)(c:Obj):aW (qc P a b key x c):=by
 unfold qc
 repeat' first
  |exact aW.false
  |exact aW.one id _
  |refine aW.and ?_
  |split
theorem E4(o:Oper)(ρ:c9->AV)(H:Heap):aW (fR P ah o ρ H):=by
 unfold fR
 repeat' first
  |exact aW.false
  |exact aW.one id _
  |exact ZW _ _ _
  |exact ZA _ _ _ _
  |exact Xo _ _ _
  |exact Xn _ _ _ _
  |exact ZC _ _ _ _ _ _
  |exact X7 _ _ _ _ _ _
  |exact X8 _ _ _ _ _
  |exact VQ _ _ _ _ _
  |exact au4 _ _ _ _ _ _ _
  |refine aW.and ?_
  |refine aW.ex fun _=>?_
  |refine aW.ite ?_ ?_
  |refine aW.or ?_ ?_
  |split
  |dsimp only
theorem Ns(d:Bool)(f:dl)(args:List AV)(H:Heap){α:Type}(g:AV->Heap->α):aW (fun K:α->Prop=>iH P d f args H (fun v H'=>K (g v H'))):=by
 unfold iH;refine aW.or (aW.ex fun vs=>aW.ex fun v=>aW.and (aW.and ?_)) (aW.and (aW.or (aW.ex fun vs=>aW.ex fun H1=>aW.ex fun v=>aW.and (aW.and ?_)) (aW.or (aW.ex fun H'=>aW.ex fun v=>aW.and ?_) (aW.or (aW.ex fun e=>aW.and (aW.and ?_)) (aW.ex fun al=>aW.ex fun v=>aW.and (aW.and ?_))))))
 ·exact aW.one (fun v=>g (.p v) H) v
 ·exact aW.one (fun v=>g (.p v) H1) v
 ·exact aW.one (fun v=>g v H') v
 ·exact aW.one (fun _:Unit=>g e.v (ba H e.aM++e.aX)) ()
 ·exact aW.one (fun v=>g (.p v) H) v
theorem MH(f:dl)(args:List AV)(H:Heap):aW (iO P f args H):=by
 unfold iO;refine aW.or (aW.ex fun vs=>aW.ex fun v=>aW.and (aW.and (aW.one id _))) (aW.or (aW.ex fun vs=>aW.ex fun bs=>aW.ex fun al=>aW.ex fun aM=>aW.ex fun v=>aW.and (aW.and (aW.and (aW.one id _)))) (aW.or (aW.ex fun e=>aW.and (aW.and (aW.one id _))) (aW.ex fun al=>aW.ex fun v=>aW.and (aW.and (aW.one id _)))))
theorem Nq(d:Bool)(o:Oper)(s:St):aW (fun K=>kr P ah d o K s):=by
 unfold kr
 split
 ·split
  ·exact Ns _ _ _ _ (fun v H'=>(⟨put o.dst v s.env,H'⟩:St))
  ·exact Ns _ _ _ _ (fun v H'=>(⟨put o.dst v s.env,H'⟩:St))
  ·exact aW.ex fun H'=>aW.ex fun v=>aW.and (aW.one (fun _:Unit=>(⟨put o.dst v s.env,H'⟩:St)) ())
  ·exact aW.false
 ·exact(E4 o _ _).map (fun e=>e.app o.dst s)
theorem Nr(o:Oper)(s:St):aW (jU P ah o s):=by
 unfold jU
 split
 ·split
  ·exact MH _ _ _
  ·exact MH _ _ _
  ·exact aW.ex fun e=>aW.and (aW.and (aW.one id _))
  ·exact aW.false
 ·exact E4 o _ _
theorem AM(d:Bool)(a:Array Oper):∀(l:List Oper)(s:St),aW (fun K=>iJ P ah d a l K s)
 |[],s=>by simp only[iJ];exact aW.one id s
 |o::l,s=>by
  have go:aW (fun K=>kr P ah d o (iJ P ah d a l K) s):=(Nq d o s).bind fun t=>AM d a l t;simp only[iJ]
  split
  ·exact go
  ·split
   ·split
    ·exact go
    ·exact AM d a l _
   ·exact AM d a l _
   ·exact aW.false
theorem Au(b:Array Oper):∀(l:List Oper)(i:Nat)(a:List Touch)(s:St),aW (fun K=>gV P ah b l i a K s)
 |[],i,a,s=>by simp only[gV];exact aW.and (aW.one id s)
 |o::l,i,a,s=>by
  have go:aW (fun K=>jU P ah o s fun e=>gV P ah b l (i+1) (iI i s.heap.length e a) K (e.app o.dst s)):=(Nr o s).bind fun e=>Au b l (i+1) _ _;simp only[gV]
  split
  ·exact go
  ·split
   ·split
    ·exact go
    ·exact Au b l (i+1) a _
   ·exact Au b l (i+1) a _
   ·exact aW.false
def BU(F:(bD->St->Prop)->Prop):Prop:=∀Q,F Q->∃e s,Q e s/\∀a:bD->St->Prop,a e s->F a
inductive yu(P:db)(ah:dl->Bool)(q:Cx)(b:Code)(e:bD)(s:St):Nat->St->Prop
 |stop {k:Nat} {u:St}:(∀Q:bD->St->Prop,Q e s->cC P ah q b Q u)->e≠.normal->yu P ah q b e s k u
 |step {k m:Nat} {u s1 u':St}:(∀Q:bD->St->Prop,Q .normal s1->cC P ah q b Q u)->m<k->cW q.2 s1 u'->yu P ah q b e s m u'->yu P ah q b e s k u
theorem ZX(j:Option Code)(s:St):BU (fun Q=>kl Q j s):=fun Q h=>by
 unfold kl at h
 split at h
 ·exact⟨.normal,s,h,fun _ h=>h⟩
 ·rename_i id;exact⟨.exit id,s,h,fun _ h=>h⟩
 ·exact⟨.ret,s,h,fun _ h=>h⟩
 ·exact h.elim
theorem Np(b:Nat)(env:Env)(H:Heap):BU (fun Q=>iX b env Q H):=fun Q h=>by
 unfold iX at h
 split at h
 ·rename_i L f;obtain⟨e,s,c,d⟩:=ZX _ _ Q h.2;exact⟨e,s,c,fun a hq=>by unfold iX;simp only[f];exact⟨h.1,d a hq⟩⟩
 ·exact h.elim
theorem ZJ(it:AV)(b:Nat)(H:Heap)(env:Env):BU (fun Q=>jO P it b H (iX b env Q)):=fun Q h=>by
 unfold jO at h
 split at h
 ·obtain⟨H',v,c,d⟩:=h;obtain⟨e,s,k1,k2⟩:=Np b env H' Q d;exact⟨e,s,k1,fun a hq=>by simp only[jO];exact⟨H',v,c,k2 a hq⟩⟩
 ·obtain⟨H',v,c,d⟩:=h;obtain⟨e,s,k1,k2⟩:=Np b env H' Q d;exact⟨e,s,k1,fun a hq=>by simp only[jO];exact⟨H',v,c,k2 a hq⟩⟩
 ·exact h.elim
theorem oR{q:Cx}:∀(c:Code)(s:St),BU (fun Q=>cC P ah q c Q s)
 | .skip,s| .label _,s=>fun Q h=>⟨.normal,s,h,fun _ h=>h⟩
 | .exit id,s=>fun Q h=>⟨.exit id,s,h,fun _ h=>h⟩
 | .ret,s=>fun Q h=>⟨.ret,s,h,fun _ h=>h⟩
 | .region id ops draw,s=>fun Q h=>by
  simp only[cC]at h⊢
  split at h
  ·rename_i l;obtain⟨t,d,g⟩:=Au ops _ _ _ _ _ h;exact⟨.normal,t,d,fun Q' h=>by simp only[l,if_true];exact g _ h⟩
  ·rename_i l;obtain⟨t,d,g⟩:=AM _ ops _ _ _ h;exact⟨.normal,t,d,fun Q' h=>by rw[if_neg l];exact g _ h⟩
 | .seq a b,s=>fun Q h=>by
  simp only[cC]at h⊢;obtain⟨e,t,d,g⟩:=oR a s _ h;cases e with
  |normal=>
   obtain⟨e',r,k,y⟩:=oR b t _ d;exact⟨e',r,k,fun Q' h=>g _ (y Q' h)⟩
  |exit id=>exact⟨.exit id,t,d,fun Q' h=>g _ h⟩
  |ret=>exact⟨.ret,t,d,fun Q' h=>g _ h⟩
 | .cond c a b,s=>fun Q h=>by
  simp only[cC]at h⊢
  split at h
  ·split at h
   ·rename_i p;obtain⟨e,t,d,g⟩:=oR a s _ h;exact⟨e,t,d,fun Q' h=>by rw[if_pos p];exact g _ h⟩
   ·rename_i p;obtain⟨e,t,d,g⟩:=oR b s _ h;exact⟨e,t,d,fun Q' h=>by rw[if_neg p];exact g _ h⟩
  ·exact h.elim
 | .block id b,s=>fun Q h=>by
  simp only[cC]at h⊢;obtain⟨e,t,d,g⟩:=oR b s _ h;cases e with
  |normal=>exact⟨.normal,t,d,fun Q' h=>g _ h⟩
  |exit i=>
   by_cases hi:i=id
   ·simp only[hi,if_true]at d;exact⟨.normal,t,d,fun Q' h=>g _ (by simp only[hi,if_true];exact h)⟩
   ·simp only[hi,if_false]at d;exact⟨.exit i,t,d,fun Q' h=>g _ (by simp only[hi,if_false];exact h)⟩
  |ret=>exact⟨.ret,t,d,fun Q' h=>g _ h⟩
 | .scope b,s=>fun Q h=>by simp only[cC]at h⊢;exact oR b s Q h
 | .loop b,s=>fun Q h=>by
  simp only[cC]at h⊢;obtain⟨I,⟨w,t0,hf,hI⟩,E⟩:=h;have key:∀(n:Nat)(t:St),I n t->∃e u,Q e u/\e≠.normal/\yu P ah q b e u n t:=by
   intro n
   induction n using kP with
   |_ n F=>
    intro t hI;obtain⟨e,s1,d,g⟩:=oR b t _ (E n t hI);cases e with
    |normal=>
     obtain⟨m,r,j,o,z⟩:=d;obtain⟨e,u,k1,k2,k3⟩:=F m j r z;exact⟨e,u,k1,k2,.step g j o k3⟩
    |exit id=>exact⟨.exit id,s1,d,s_,.stop g s_⟩
    |ret=>exact⟨.ret,s1,d,s_,.stop g s_⟩
  obtain⟨e,u,d,g,k⟩:=key w t0 hI;refine⟨e,u,d,fun Q' v=>⟨yu P ah q b e u,⟨w,t0,hf,k⟩,?_⟩⟩;intro n t hl;cases hl with
  |stop hs D=>
   refine hs _ ?_;cases e with
   |normal=>exact(D rfl).elim
   |exit id=>exact v
   |ret=>exact v
  |step hs j o C=>exact hs _ ⟨_,_,j,o,C⟩
 | .rangeFunc f G a b,s=>fun Q h=>by
  simp only[cC]at h;obtain⟨A,x,B,h⟩:=h;obtain⟨e,t,d,g⟩:=ZJ _ _ _ _ Q h;exact⟨e,t,d,fun Q' hq=>by simp only[cC];exact⟨A,x,B,g Q' hq⟩⟩
 | .goto _,_| .refuse _,_=>fun Q h=>by simp[cC]at h
def Spec(P:db)(f:dl)(args:List PV)(Q:PV->Prop):Prop:=∃v,az P f args v/\Q v
def BX(P:db)(a:List ei)(Q:PV->Prop)(e:bD)(s:St):Prop:=
 (match e with
  | .exit _=>False
  |_=>True)/\∃vs,fX P s a=some vs/\∃v,eQ s.heap 9 (oneOf vs)=some v/\Q v
theorem Spec.mono{f:dl}{args:List PV}{Q a:PV->Prop}(h:Spec P f args Q)(hq:∀v,Q v->a v):Spec P f args a:=by
 obtain⟨v,b,c⟩:=h;exact⟨v,b,hq v c⟩
end
def pD(id:Nat)(Q:bD->St->Prop)(e:bD)(s:St):Prop:=
 match e with
 | .exit i=>if i=id then Q .normal s else Q (.exit i) s
 |e=>Q e s
theorem XE{id:Nat}{Q:bD->St->Prop}{s:St}:pD id Q .normal s=Q .normal s:=(rfl)
theorem YX{id i:Nat}{Q:bD->St->Prop}{s:St}:pD id Q (.exit i) s=if i=id then Q .normal s else Q (.exit i) s:=(rfl)
theorem ZZ{id:Nat}{Q:bD->St->Prop}{s:St}:pD id Q .ret s=Q .ret s:=(rfl)
def vo(N n:Nat)(I:Nat->St->Prop)(Q:bD->St->Prop)(e:bD)(s:St):Prop:=
 match e with
 | .normal=>∃a b,a<n/\cW N s b/\I a b
 |e=>Q e s
theorem Xt{N n:Nat}{I:Nat->St->Prop}{Q:bD->St->Prop}{s:St}:vo N n I Q .normal s=∃a b,a<n/\cW N s b/\I a b:=(rfl)
theorem Yb{N n id:Nat}{I:Nat->St->Prop}{Q:bD->St->Prop}{s:St}:vo N n I Q (.exit id) s=Q (.exit id) s:=(rfl)
theorem ZF{N n:Nat}{I:Nat->St->Prop}{Q:bD->St->Prop}{s:St}:vo N n I Q .ret s=Q .ret s:=(rfl)
section Gr
variable{P:db}
end Gr
section
variable{P:db}{ah:dl->Bool}
abbrev ff:=Option (Prop×aZ)
def bp(r:ff)(K:aZ->Prop):Prop:=
 match r with
 |some (p,e)=>p/\K e
 |none=>False
theorem ZO{p:Prop}{e:aZ}{K:aZ->Prop}:bp (some (p,e)) K=(p/\K e):=(rfl)
theorem asa{K:aZ->Prop}:bp none K=False:=(rfl)
@[congr] theorem aTH{r a:ff}{K:aZ->Prop}(h:r=a):bp r K=bp a K:=by rw[h]
def Can(F:(aZ->Prop)->Prop)(r:ff):Prop:=∀K,bp r K->F K
theorem Can.none{F:(aZ->Prop)->Prop}:Can F none:=fun _ h=>h.elim
def qY(P:db)(T:da)(H:Heap)(a:AV):ff:=
 match a with
 | .ptr b path=>match H[b]? with
  |some (.box fz t)=>match fk t path with
   |some s=>some (kindOf P T=aa s,{v:=s,al:=[(b,.box fz t)]})
   |none=>none
  |_=>none
 | .ct b ar ak i path=>match H[b]? with
  |some (.arr k d c es)=>match es[i]? with
   |some x=>match fk x path with
    |some s=>some ((ar=d/\ak=c)/\kindOf P T=aa s,{v:=s,al:=[(b,.arr k d c es)]})
    |none=>none
   |none=>none
  |_=>none
 | .p (.cG t)=>some (kindOf P T=aP t,{v:=.p t})
 |_=>none
theorem awo{T:da}{H:Heap}{a:AV}:Can (pF P T H a) (qY P T H a):=by
 intro K h;unfold qY at h;unfold pF
 split at h
 ·split at h
  ·rename_i b
   split at h
   ·rename_i hs;simp only[bp]at h;simp only[b,hs];exact h
   ·exact h.elim
  ·exact h.elim
 ·split at h
  ·rename_i b
   split at h
   ·rename_i x hx;obtain⟨hi,hx⟩:=hR.1 hx
    split at h
    ·rename_i hs;simp only[bp]at h;simp only[b];exact⟨h.1.1.1,h.1.1.2,hi,by rw[hx,hs];exact⟨h.1.2,h.2⟩⟩
    ·exact h.elim
   ·exact h.elim
  ·exact h.elim
 ·exact h
 ·exact h.elim
def qM(P:db)(T:da)(H:Heap)(a x:AV):ff:=
 match a with
 | .ptr b path=>match H[b]? with
  |some (.box false t)=>match fk t path,gD t path x with
   |some s,some d=>some ((kindOf P T=aa x/\aa x≠.bad)/\aa s=aa x,{v:=.p (.aD []),al:=[(b,.box false t)],aM:=[(b,.box false d)]})
   |_,_=>none
  |_=>none
 | .ct b ar ak i path=>match H[b]? with
  |some (.arr k e c es)=>match es[i]? with
   |some y=>match fk y path,gD y path x with
    |some s,some d=>some ((kindOf P T=aa x/\aa x≠.bad)/\(ar=e/\ak=c/\k≠.frozen)/\aa s=aa x,{v:=.p (.aD []),al:=[(b,.arr k e c es)],aM:=[(b,.arr k e c (es.set i d))]})
    |_,_=>none
   |none=>none
  |_=>none
 |_=>none
theorem auc{T:da}{H:Heap}{a x:AV}:Can (pg P T H a x) (qM P T H a x):=by
 intro K h;unfold qM at h;unfold pg
 split at h
 ·split at h
  ·rename_i b
   split at h
   ·rename_i hs c;simp only[bp]at h;simp only[b,hs,c];exact⟨h.1.1.1,h.1.1.2,h.1.2,h.2⟩
   ·exact h.elim
  ·exact h.elim
 ·split at h
  ·rename_i b
   split at h
   ·rename_i y d;obtain⟨hi,d⟩:=hR.1 d
    split at h
    ·rename_i hs c;simp only[bp]at h;simp only[b];exact⟨h.1.1.1,h.1.1.2,h.1.2.1.1,h.1.2.1.2.1,h.1.2.1.2.2,hi,by rw[d,hs,c];exact⟨h.1.2.2,h.2⟩⟩
    ·exact h.elim
   ·exact h.elim
  ·exact h.elim
 ·exact h.elim
def qo(P:db)(T:da)(a:AV)(f:Nat):ff:=
 match fZ P T with
 |some (u,n)=>match a with
  | .ptr b path=>some (f<n,{v:=.ptr b (path++[(u,f)])})
  | .ct b ar ak i path=>some (f<n,{v:=.ct b ar ak i (path++[(u,f)])})
  | .p (.cG t)=>match(cS t)[f]? with
   |some g=>some (f<n/\aP t=.agg u,{v:=.p (.cG g)})
   |none=>none
  |_=>none
 |_=>none
theorem XB{T:da}{a:AV}{f:Nat}:Can (oV P T a f) (qo P T a f):=by
 intro K h;unfold qo at h;unfold oV
 split at h
 ·rename_i hs;simp only[hs]
  split at h
  ·exact h
  ·exact h
  ·split at h
   ·rename_i b;simp only[bp]at h;simp only[b];exact⟨h.1.1,h.1.2,h.2⟩
   ·exact h.elim
  ·exact h.elim
 ·exact h.elim
def qm(P:db)(T:da)(H:Heap)(x i:AV):ff:=
 match i with
 | .p (.int _ i)=>match x with
  | .p (.bF _ es)=>match es[i.toNat]? with
   |some y=>some (0<=i/\cV P T=some (bO P (aP y)),{v:=.p (.cG y)})
   |none=>none
  | .p (.seq es)=>match es[i.toNat]? with
   |some y=>some (0<=i/\cV P T=some (bO P (aP y)),{v:=.p (.cG y)})
   |none=>none
  | .sl b ar ak off len=>match H[b]? with
   |some (.arr k c a es)=>some (0<=i/\cV P T=some ak/\i.toNat<len/\ar=c/\ak=a/\¬(k.gr=true/\es=[]),{v:=.ct b ar ak (off+i.toNat) [],al:=[(b,.arr k c a es)]})
   |_=>none
  | .ptr b path=>match iQ P T with
   |some (u,n)=>some (0<=i/\i.toNat<n,{v:=.ptr b (path++[(u,i.toNat)])})
   |_=>none
  | .ct b ar ak j path=>match iQ P T with
   |some (u,n)=>some (0<=i/\i.toNat<n,{v:=.ct b ar ak j (path++[(u,i.toNat)])})
   |_=>none
  | .p (.cG t)=>match iQ P T with
   |some (u,n)=>match(cS t)[i.toNat]? with
    |some g=>some (0<=i/\aP t=.agg u/\i.toNat<n,{v:=.p (.cG g)})
    |none=>none
   |_=>none
  |_=>none
 |_=>none
theorem XA{T:da}{H:Heap}{x i:AV}:Can (oU P T H x i) (qm P T H x i):=by
 intro K h;unfold qm at h;unfold oU
 split at h
 case h_2=>exact h.elim
 split at h
 ·split at h
  ·rename_i y a;obtain⟨hi,a⟩:=hR.1 a;simp only[bp]at h;exact⟨h.1.1,hi,by rw[a];exact h.1.2,by rw[a];exact h.2⟩
  ·exact h.elim
 ·split at h
  ·rename_i y a;obtain⟨hi,a⟩:=hR.1 a;simp only[bp]at h;exact⟨h.1.1,hi,by rw[a];exact h.1.2,by rw[a];exact h.2⟩
  ·exact h.elim
 ·split at h
  ·rename_i l;simp only[bp]at h;obtain⟨⟨b,c,d,e,f,g⟩,j⟩:=h;refine⟨b,c,d,?_⟩;rw[l];exact⟨e,f,g,j⟩
  ·exact h.elim
 ·split at h
  ·rename_i hs;simp only[bp]at h;simp only[hs];exact⟨h.1.1,h.1.2,h.2⟩
  ·exact h.elim
 ·split at h
  ·rename_i hs;simp only[bp]at h;simp only[hs];exact⟨h.1.1,h.1.2,h.2⟩
  ·exact h.elim
 ·split at h
  ·rename_i hs
   split at h
   ·rename_i k;simp only[bp]at h;simp only[hs,k];exact⟨h.1.1,h.1.2.1,h.1.2.2,h.2⟩
   ·exact h.elim
  ·exact h.elim
 ·exact h.elim
end
section
variable{P:db}{ah:dl->Bool}
def qL(P:db)(T X:da)(H:Heap)(s x:AV):ff:=
 match cV P T,iD H x with
 |some sz,some xs=>match s with
  | .p .aH=>some ((iu P X=true/\(cO P (ez P T)).isSome=true/\fh P sz xs)/\xs.length<=cJ,
   if xs.isEmpty then{v:=s,al:=dR H x}else{v:=.sl H.length 0 sz 0 xs.length,al:=dR H x,aX:=[.arr (gk P T) 0 sz xs]})
  | .sl b ar ak off len=>match H[b]? with
   |some (.arr k c a es)=>some ((iu P X=true/\(cO P (ez P T)).isSome=true/\fh P sz xs)/\(ar=c/\ak=a/\ak=sz/\off+len<=es.length)/\es.length+xs.length<=cJ/\k≠ .frozen/\(k≠ .exact->off=0)/\(k= .bytes->ez P T=Gl.u8),
    if xs.isEmpty then{v:=s,al:=(b,.arr k c a es)::dR H x}
    else match k with
     | .exact=>if off+len+xs.length<=es.length then
      {v:=.sl b ar ak off (len+xs.length),al:=(b,.arr k c a es)::dR H x,aM:=[(b,.arr .exact ar ak (es.take (off+len)++xs++es.drop (off+len+xs.length)))]}
      else{v:=.sl H.length 0 sz 0 (len+xs.length),al:=(b,.arr k c a es)::dR H x,aX:=[.arr (gk P T) 0 sz ((es.drop off).take len++xs)]}
     |_=>{v:=.sl b (ar+1) ak 0 (len+xs.length),al:=(b,.arr k c a es)::dR H x,aM:=[(b,.arr k (ar+1) ak (es.take len++xs))]})
   |_=>none
  |_=>none
 |_,_=>none
theorem Y2{T X:da}{H:Heap}{s x:AV}:Can (oZ P T X H s x) (qL P T X H s x):=by
 intro K h;unfold qL at h;unfold oZ
 split at h
 case h_2=>exact h.elim
 rename_i sz p i j;simp only[i,j]
 split at h
 ·simp only[bp]at h;obtain⟨⟨⟨b,a2,a3⟩,a4⟩,hk⟩:=h;refine⟨b,a2,a3,?_⟩;dsimp only
  split
  ·rename_i a;rw[if_pos a]at hk;exact hk
  ·rename_i a;rw[if_neg a]at hk;exact⟨a4,hk⟩
 ·split at h
  case h_2=>exact h.elim
  rename_i k o n m l;simp only[bp]at h;obtain⟨⟨⟨b,a2,a3⟩,⟨rfl,rfl,e,f⟩,g,a9,c,d⟩,hk⟩:=h;refine⟨b,a2,a3,?_⟩;simp only[l];refine⟨trivial,trivial,e,f,?_⟩
  split
  ·rename_i a;rw[if_pos a]at hk;exact hk
  ·rename_i a;rw[if_neg a]at hk;refine⟨g,?_⟩;cases k with
   |frozen=>exact a9 rfl
   |exact=>
    simp only at hk⊢
    split
    ·rename_i hc;rw[if_pos hc]at hk;exact hk
    ·rename_i hc;rw[if_neg hc]at hk;exact hk
   |grow=>exact⟨c s_,fun h=>(by cases h),hk⟩
   |bytes=>exact⟨c s_,d,hk⟩
 ·exact h.elim
def lN(x:Option AV)(d:Nat):Option (Prop×Nat):=
 match x with
 |none=>some (True,d)
 |some (.p (.int _ i))=>some (0<=i,i.toNat)
 |_=>none
theorem nQ{x:Option AV}{d n:Nat}{p:Prop}{K:Nat->Prop}(h:lN x d=some (p,n))(a:p)(hk:K n):ir x d K:=by
 unfold lN at h;unfold ir
 split at h
 ·simp only[lq,lu]at h;obtain⟨rfl,rfl⟩:=h;exact hk
 ·simp only[lq,lu]at h;obtain⟨rfl,rfl⟩:=h;exact⟨a,hk⟩
 ·cases h
def qO(P:db)(T:da)(H:Heap)(x:AV)(lo hi:Option AV):ff:=
 match x with
 | .p (.str s)=>match lN hi s.length,lN lo 0 with
  |some (p,h),some (q,l)=>some (je P T=true/\p/\q/\h<=s.length/\l<=h,{v:=.p (.str ((s.take h).drop l))})
  |_,_=>none
 | .p .aH=>match lN hi 0,lN lo 0 with
  |some (p,h),some (q,l)=>some ((cV P T).isSome=true/\p/\q/\h<=0/\l<=h,{v:=.p .aH})
  |_,_=>none
 | .p (.bF full es)=>match lN hi es.length,lN lo 0,cV P T with
  |some (p,h),some (q,l),some sz=>some (p/\q/\h<=es.length/\l<=h/\fh P sz (es.map .p),{v:=.p (.bF (full&&h==es.length) ((es.take h).drop l))})
  |_,_,_=>none
 | .p (.seq es)=>match lN hi es.length,lN lo 0,cV P T with
  |some (p,h),some (q,l),some sz=>some (p/\q/\h<=es.length/\l<=h/\fh P sz (es.map .p),{v:=.p (.seq ((es.take h).drop l))})
  |_,_,_=>none
 | .sl b ar ak off len=>match H[b]? with
  |some (.arr k c a es)=>match lN hi len,lN lo 0 with
   |some (p,h),some (q,l)=>some ((ar=c/\ak=a/\cV P T=some ak/\¬(k.gr=true/\es=[])/\off+len<=es.length)/\p/\q/\off+h<=es.length/\l<=h,
    if l=0 then{v:=.sl b ar ak off h,al:=[(b,.arr k c a es)]}
    else if l=h then{v:=.p (.bF false []),al:=[(b,.arr k c a es)]}
    else{v:=.sl b ar ak (off+l) (h-l),al:=[(b,.arr k c a es)]})
   |_,_=>none
  |_=>none
 |_=>none
theorem aud{T:da}{H:Heap}{x:AV}{lo hi:Option AV}:Can (ph P T H x lo hi none) (qO P T H x lo hi):=by
 intro K h;unfold qO at h;unfold ph;refine⟨rfl,?_⟩
 split at h
 ·split at h
  case h_2=>exact h.elim
  rename_i a b;simp only[bp]at h;obtain⟨⟨c,a2,a3,a4,a5⟩,hk⟩:=h;exact⟨c,nQ a a2 (nQ b a3 ⟨a4,a5,hk⟩)⟩
 ·split at h
  case h_2=>exact h.elim
  rename_i a b;simp only[bp]at h;obtain⟨⟨c,a2,a3,a4,a5⟩,hk⟩:=h;exact⟨c,nQ a a2 (nQ b a3 ⟨a4,a5,hk⟩)⟩
 ·split at h
  case h_2=>exact h.elim
  rename_i a b e;simp only[bp]at h;obtain⟨⟨a2,a3,a4,a5,d⟩,hk⟩:=h;refine nQ a a2 (nQ b a3 ⟨a4,a5,?_⟩);simp only[e];exact⟨d,hk⟩
 ·split at h
  case h_2=>exact h.elim
  rename_i a b e;simp only[bp]at h;obtain⟨⟨a2,a3,a4,a5,d⟩,hk⟩:=h;refine nQ a a2 (nQ b a3 ⟨a4,a5,?_⟩);simp only[e];exact⟨d,hk⟩
 ·split at h
  case h_2=>exact h.elim
  rename_i i
  split at h
  case h_2=>exact h.elim
  rename_i a b;simp only[bp]at h;obtain⟨⟨⟨c,a2,a3,a4,a5⟩,d,f,g,a9⟩,hk⟩:=h;simp only[i];refine⟨c,a2,a3,a4,a5,nQ a d (nQ b f ⟨g,a9,?_⟩)⟩
  split
  ·rename_i hc;rw[if_pos hc]at hk;exact hk
  ·rename_i hc;rw[if_neg hc]at hk
   split
   ·rename_i hc;rw[if_pos hc]at hk;exact hk
   ·rename_i hc;rw[if_neg hc]at hk;exact hk
 ·exact h.elim
def tv(P:db)(T:da)(H:Heap)(x key:AV)(ok:Bool):ff:=
 match jS P T,key with
 |some (a,E),.p key=>match cO P E with
  |some z=>match x with
   | .p .fM=>some (fI P a key=true,{v:=.p (if ok then .aD [z,.bool false]else z)})
   | .p (.fu es)=>match gI P a es key with
    |some r=>some (fI P a key=true,{v:= .p (match r with
      |some v=>if ok then .aD [v,.bool true]else v
      |none=>if ok then .aD [z,.bool false]else z)})
    |none=>none
   | .map b=>match H[b]? with
    |some (.map fz es)=>match gI P a es key with
     |some r=>some (fI P a key=true,{v:= .p (match r with
       |some v=>if ok then .aD [v,.bool true]else v
       |none=>if ok then .aD [z,.bool false]else z),al:=[(b,.map fz es)]})
     |none=>none
    |_=>none
   |_=>none
  |none=>none
 |_,_=>none
def nq(P:db)(T:da)(H:Heap)(m k x:AV):ff:=
 match jS P T,m,k,x with
 |some (a,_),.map b,.p key,.p v=>match H[b]? with
  |some (.map false es)=>match mV P a es key with
   |some _=>some (fI P a key=true,{v:=.p (.aD []),al:=[(b,.map false es)],aM:=[(b,.map false (iq es key v))]})
   |none=>none
  |_=>none
 |_,_,_,_=>none
def sU(P:db)(T:da)(n:Nat)(x:AV):ff:=
 match x with
 | .p (.str s)=>some (je P T=true,{v:=.ptr n [],aX:=[.dO s 0]})
 |_=>none
def tE(H:Heap)(it:AV):ff:=
 match it with
 | .ptr b []=>match H[b]? with
  |some (.dO s pos)=>some (True,if pos<s.length then
   {v:=.p (.aD [.bool true,.int .i64 pos,.int .i32 (hM (ic s) pos).1]),al:=[(b,.dO s pos)],aM:=[(b,.dO s (pos+(hM (ic s) pos).2))]}
   else{v:=.p (.aD [.bool false]),al:=[(b,.dO s pos)]})
  |_=>none
 |_=>none
def tG(P:db)(T:da)(n:Nat)(l c:AV):ff:=
 match cV P T,cO P (ez P T),l,c with
 |some sz,some z,.p (.int .i64 l),.p (.int .i64 c)=>some (bO P (aP z)=sz/\0<=l/\l=c/\l<=cJ,{v:=.sl n 0 sz 0 l.toNat,aX:=[.arr .exact 0 sz (hU l.toNat (.p z))]})
 |_,_,_,_=>none
def copyV(P:db)(T:da)(H:Heap)(d x:AV):ff:=
 match cV P T,d,iD H x with
 |some sz,.sl b ar ak off len,some xs=>match H[b]? with
  |some (.arr k c a es)=>some ((ak=sz/\fh P sz xs)/\ar=c/\ak=a/\k≠ .frozen/\off+len<=es.length/\¬(k.gr=true/\es=[]),
   {v:=.p (.int .i64 (min xs.length len:Nat)),al:=(b,.arr k c a es)::dR H x,aM:=[(b,.arr k c a (es.take off++xs.take (min xs.length len)++es.drop (off+min xs.length len)))]})
  |_=>none
 |_,_,_=>none
def sO(x:AV):ff:=
 match x with
 | .ptr _ _| .ct _ _ _ _ _| .p (.cG _)=>some (True,{v:=x})
 |_=>none
def lT(b:Bool)(c:List AV):ff:=
 match c with
 | .p (.int k a)::r=>match mP k b r a with
  |some n=>some (True,{v:=.p (.int k n)})
  |none=>none
 |_=>none
def tt(f:dl)(fi ca:List AV):ff:=
 match fj fi,fj ca with
 |some a,some b=>some (True,{v:=.p (.func f a b)})
 |_,_=>some (True,{v:=.func f fi ca})
end
section
variable{P:db}{ah:dl->Bool}
def tA(c a b:AV):ff:=
 match c with
 | .p (.bool t)=>some (True,{v:=if t then a else b})
 |_=>none
def sZ(P:db)(T:da)(n:Nat):ff:=
 match cO P T with
 |some z=>some (kindOf P T=aP z/\aP z≠.bad/\jT T (aP z)=true,{v:=.ptr n [],aX:=[.box false (.p z)]})
 |none=>none
def vI(P:db)(T:da)(n:Nat)(x:AV):ff:=some (kindOf P T=aa x/\aa x≠.bad/\jT T (aa x)=true,{v:=.ptr n [],aX:=[.box false x]})
def sX(P:db)(T:da)(a:List (Nat×AV)):ff:=
 match kindOf P T,cO P T with
 | .agg u,some z=>match dY P u with
  |some l=>some (aP z=.agg u/\mO P l a,{v:=iR u (jd ((cS z).map .p) a)})
  |none=>none
 |_,_=>none
def sf(P:db)(T:da)(n:Nat)(a:List (Nat×AV))(b:Nat):ff:=
 match cV P T,cO P (ez P T)with
 |some sz,some z=>some (bO P (aP z)=sz/\n*sz<=1000000/\mO P (hU n sz) a,{v:=.sl b 0 sz 0 n,aX:=[.arr .exact 0 sz (jd (hU n (.p z)) a)]})
 |_,_=>none
def vS(op:dz)(k:ed)(a b:Int):Prop×PV:=
 match op with
 | .add=>(True,.int k (k.wrap (a+b)))
 | .sub=>(True,.int k (k.wrap (a-b)))
 | .mul=>(True,.int k (k.wrap (a*b)))
 | .quo=>(b≠0,.int k (k.wrap (a.tdiv b)))
 | .rem=>(b≠0,.int k (a.tmod b))
 | .and=>(True,.int k (k.wrap (cx k.bits a&&&cx k.bits b).toNat))
 | .or=>(True,.int k (k.wrap (cx k.bits a|||cx k.bits b).toNat))
 | .xor=>(True,.int k (k.wrap (cx k.bits a^^^cx k.bits b).toNat))
 | .andNot=>(True,.int k (k.wrap (cx k.bits a&&&~~~cx k.bits b).toNat))
 | .eql=>(True,.bool (a==b))
 | .neq=>(True,.bool (a !=b))
 | .lss=>(True,.bool (decide (a<b)))
 | .leq=>(True,.bool (decide (a<=b)))
 | .gtr=>(True,.bool (decide (a>b)))
 | .geq=>(True,.bool (decide (a>=b)))
 | .shl=>(0<=b,.int k (k.wrap (a*2^(min b.toNat k.bits))))
 | .shr=>(0<=b,.int k (a.fdiv (2^(min b.toNat k.bits))))
theorem aLw{op:dz}{k:ed}{a b:Int}{K:PV->Prop}(h:(vS op k a b).1)(hk:K (vS op k a b).2):qX op k a b K:=by
 cases op<;>simp only[vS,qX]at*<;>first|exact hk|exact⟨h,hk⟩
def G9(op:dz)(a b:List Nat):Option (Prop×PV):=
 match op with
 | .add=>some (a.length+b.length<9223372036854775808,.str (a++b))
 | .eql=>some (True,.bool (a==b))
 | .neq=>some (True,.bool (!(a==b)))
 | .lss=>some (True,.bool (jN a b))
 | .leq=>some (True,.bool (jN a b||a==b))
 | .gtr=>some (True,.bool (!(jN a b||a==b)))
 | .geq=>some (True,.bool (!(jN a b)))
 |_=>none
def fC(P:db)(op:dz)(T:da)(c:Bool)(H:Heap)(x y:AV):ff:=
 match x,y with
 | .p (.int k a),.p (.int d b)=>some ((k=d\/op=.shl\/op=.shr)/\(vS op k a b).1,{v:=.p (vS op k a b).2})
 | .p (.str a),.p (.str b)=>match G9 op a b with
  |some (p,v)=>some (p,{v:=.p v})
  |none=>none
 | .p (.bool a),.p (.bool b)=>match op with
  | .eql=>some (sR P T=true,{v:=.p (.bool (a==b))})
  | .neq=>some (sR P T=true,{v:=.p (.bool (!(a==b)))})
  |_=>none
 | .p (.st u fs),.p (.st u' gs)=>match eA P 9 T (.st u fs) (.st u' gs),op with
  |some r,.eql=>some (lO P T=true,{v:=.p (.bool r)})
  |some r,.neq=>some (lO P T=true,{v:=.p (.bool !r)})
  |_,_=>none
 |x,y=>match dy P T c y with
  |some k=>match cU H k x,op with
   |some r,.eql=>some (True,{v:=.p (.bool r),al:=dR H x})
   |some r,.neq=>some (True,{v:=.p (.bool !r),al:=dR H x})
   |_,_=>none
  |none=>none
theorem NQ{op:dz}{T:da}{c:Bool}{H:Heap}{x y:AV}{k:wv}{K:PV->Prop}(hk:dy P T c y=some k):lI P op T c H x y K=(match cU H k x,op with
  |some r,.eql=>K (.bool r)
  |some r,.neq=>K (.bool !r)
  |_,_=>False):=by
 have a:=hk;rcases MO hk with⟨rfl,rfl,_⟩|⟨rfl,rfl,_⟩|⟨rfl,rfl,_⟩|⟨rfl,rfl,_⟩|⟨rfl,rfl,_⟩
 all_goals
  unfold lI;cases x with
  |p v=>
   cases v<;>simp only[a]<;>(generalize cU H _ _=r;cases r<;>cases op<;>rfl)
  |_=>simp only[a];(generalize cU H _ _=r;cases r<;>cases op<;>rfl)
theorem aCl{op:dz}{T:da}{c:Bool}{H:Heap}{x y:AV}:Can (fun K=>lI P op T c H x y (fun v=>K {v:=.p v,al:=dR H x})) (fC P op T c H x y):=by
 intro K h;unfold fC at h;unfold lI
 split at h
 ·exact⟨h.1.1,aLw h.1.2 h.2⟩
 ·split at h
  ·rename_i p v a;simp only[bp]at h;show qW op _ _ _;unfold G9 at a
   split at a<;>first
    |(simp only[lq,lu]at a
      obtain⟨b,d⟩:=a;rw[<-b,<-d]at h;simp only[qW]
      first|exact h.2|exact⟨h.1,h.2⟩)
    |cases a
  ·exact h.elim
 ·split at h
  ·exact⟨h.1,h.2⟩
  ·exact⟨h.1,h.2⟩
  ·exact h.elim
 ·split at h
  ·rename_i e;simp only[bp]at h;simp only[e];exact⟨h.1,h.2⟩
  ·rename_i e;simp only[bp]at h;simp only[e];exact⟨h.1,h.2⟩
  ·exact h.elim
 ·rename_i b d f g
  split at h
  case h_2=>exact h.elim
  rename_i k hk;clear b d f g;show lI P op T c H x y _;rw[NQ hk];generalize cU H k x=q at h⊢;cases q<;>cases op<;>first|exact h.elim|exact h.2
def ub(op:UnOp)(x:AV):ff:=
 match op,x with
 | .not,.p (.bool b)=>some (True,{v:=.p (.bool (!b))})
 | .neg,.p (.int k n)=>some (True,{v:=.p (.int k (k.wrap (0-n)))})
 | .xor,.p (.int k n)=>some (True,{v:=.p (.int k (k.wrap (cx k.bits (if k.signed then -1 else k.max)^^^cx k.bits n).toNat))})
 |_,_=>none
def tj(P:db)(S D:da)(H:Heap)(x:AV):ff:=
 match P.underlying S,P.underlying D,x with
 |some _,some (.int k),.p (.int _ n)=>some (True,{v:=.p (.int k (k.wrap n))})
 |some _,some .string,.p (.str s)=>some (True,{v:=.p (.str s)})
 |some (.slice e),some .string,.sl b ar ak off len=>match H[b]? with
  |some (.arr k c a es)=>match bytesOf ((es.drop off).take len)with
   |some l=>some ((ar=c/\ak=a/\ak=1/\P.underlying e=some (.int .u8)/\0<len/\off+len<=es.length),{v:=.p (.str l),al:=[(b,.arr k c a es)]})
   |none=>none
  |_=>none
 |_,_,_=>none
def sC(t:AV)(i:Nat):ff:=
 match t with
 | .p (.aD vs)=>match vs[i]? with
  |some v=>some (True,{v:=.p v})
  |none=>none
 | .aD vs=>match vs[i]? with
  |some v=>some (True,{v})
  |none=>none
 |_=>none
def s9(P:db)(T:da)(x i:AV):ff:=
 match x,i with
 | .p (.str s),.p (.int _ i)=>match s[i.toNat]? with
  |some c=>some (je P T=true/\0<=i,{v:=.p (.int .u8 c)})
  |none=>none
 | .p (.st u es),.p (.int _ i)=>match iQ P T,(j0 P u)[i.toNat]?,es[i.toNat]? with
  |some (u',n),some F,some g=>some (u'=u/\0<=i/\i.toNat<n/\kindOf P F=aP g,{v:=.p g})
  |_,_,_=>none
 |_,_=>none
def tS(P:db)(T:da)(n:Nat)(H:Heap)(x:AV):ff:=
 match lenOf H x with
 |some (m,al)=>some (iL P T x=true/\0<n,{v:=.p (.int .i64 m),al})
 |none=>none
def lV(P:db)(ah:dl->Bool)(o:Oper)(e:Env)(H:Heap)(K:aZ->Prop):Prop:=
 match o.op with
 | .move x| .assign x=>K {v:=ev e x}
 | .pick c a b=>bp (tA (ev e c) (ev e a) (ev e b)) K
 | .alloc T=>bp (sZ P T H.length) K
 | .box T x=>bp (vI P T H.length (ev e x)) K
 | .build T parts=>bp (sX P T (parts.toList.map fun(i,x)=>(i,ev e x))) K
 | .buildSlice T n parts=>bp (sf P T n (parts.toList.map fun(i,x)=>(i,ev e x)) H.length) K
 | .load T a=>bp (qY P T H (ev e a)) K
 | .store T a x=>bp (qM P T H (ev e a) (ev e x)) K
 | .binOp op T x y _=>bp (fC P op T (nr y) H (ev e x) (ev e y)) K
 | .unOp op _ x=>bp (ub op (ev e x)) K
 | .convert S D x=>bp (tj P S D H (ev e x)) K
 | .extract t i=>bp (sC (ev e t) i) K
 | .fieldAddr T a f=>bp (qo P T (ev e a) f) K
 | .indexAddr T x i=>bp (qm P T H (ev e x) (ev e i)) K
 | .index T x i=>bp (s9 P T (ev e x) (ev e i)) K
 | .slice T x lo hi none=>bp (qO P T H (ev e x) (lo.map (ev e)) (hi.map (ev e))) K
 | .lookup T x i ok=>bp (tv P T H (ev e x) (ev e i) ok) K
 | .mapUpdate T m k x| .insert T m k x=>bp (nq P T H (ev e m) (ev e k) (ev e x)) K
 | .range T x=>bp (sU P T H.length (ev e x)) K
 | .next it true=>bp (tE H (ev e it)) K
 | .makeSlice T l c=>bp (tG P T H.length (ev e l) (ev e c)) K
 | .nilCheck x=>bp (sO (ev e x)) K
 | .call c=>match c.callee with
  | .builtin .len=>(match c.args.toList with
   |[x]=>bp (tS P (c.argTypes.getD 0 0) c.argTypes.size H (ev e x)) K
   |_=>False)
  | .builtin .append=>(match c.args.toList with
   |[s,x]=>c.argTypes.size=2/\bp (qL P (c.argTypes.getD 0 0) (c.argTypes.getD 1 0) H (ev e s) (ev e x)) K
   |_=>False)
  | .builtin .copy=>(match c.args.toList with
   |[d,x]=>c.argTypes.size=2/\bp (copyV P (c.argTypes.getD 0 0) H (ev e d) (ev e x)) K
   |_=>False)
  | .builtin .min=>bp (lT false (c.args.toList.map (ev e))) K
  | .builtin .max=>bp (lT true (c.args.toList.map (ev e))) K
  |_=>fR P ah o (ev e) H K
 |_=>fR P ah o (ev e) H K
theorem Rx{o:Oper}{e:Env}{H:Heap}{K:aZ->Prop}(h:lV P ah o e H K):fR P ah o (ev e) H K:=by
 unfold lV at h;unfold fR;cases w:o.op<;>simp only[w]at h<;>simp only
 case move|assign=>exact h
 case pick c a b=>
  unfold tA at h
  split at h
  ·rename_i hc;simp only[hc];exact h.2
  ·exact h.elim
 case alloc T=>
  unfold sZ at h
  split at h
  ·rename_i v;simp only[bp]at h;simp only[v];exact⟨h.1.1,h.1.2.1,h.1.2.2,h.2⟩
  ·exact h.elim
 case box T x=>exact⟨h.1.1,h.1.2.1,h.1.2.2,h.2⟩
 case build T parts=>
  unfold sX at h
  split at h
  ·rename_i hk v
   split at h
   ·rename_i hl;simp only[bp]at h;simp only[hk,v,hl];exact⟨h.1.1,h.1.2,h.2⟩
   ·exact h.elim
  ·exact h.elim
 case buildSlice T n parts=>
  unfold sf at h
  split at h
  ·rename_i hk v;simp only[bp]at h;simp only[hk,v];exact⟨h.1.1,h.1.2.1,h.1.2.2,h.2⟩
  ·exact h.elim
 case load T a=>exact awo K h
 case store T a x=>exact auc K h
 case binOp op T x y N=>exact aCl K h
 case unOp op T x=>
  unfold ub at h
  split at h
  ·rename_i hx;simp only[hx];exact h.2
  ·rename_i hx;simp only[hx];exact h.2
  ·rename_i hx;simp only[hx];exact h.2
  ·exact h.elim
 case convert S D x=>
  unfold tj at h
  split at h
  ·rename_i g j p;simp only[g,j,p];exact h.2
  ·rename_i g j p;simp only[g,j,p];exact h.2
  ·rename_i g j p
   split at h
   ·rename_i q
    split at h
    ·rename_i hl;obtain⟨⟨A,a2,a3,a4,a5,B⟩,h⟩:=h;simp only[g,j,p,q,hl];exact⟨A,a2,a3,a4,a5,B,h⟩
    ·exact h.elim
   ·exact h.elim
  ·exact h.elim
 case extract t i=>
  unfold sC at h
  split at h
  ·rename_i E
   split at h
   ·rename_i F;simp only[E,F];exact h.2
   ·exact h.elim
  ·rename_i E
   split at h
   ·rename_i F;simp only[E,F];exact h.2
   ·exact h.elim
  ·exact h.elim
 case fieldAddr T a f=>exact XB K h
 case indexAddr T x i=>exact XA K h
 case index T x i=>
  unfold s9 at h
  split at h
  ·rename_i hx hi
   split at h
   ·rename_i c hc;obtain⟨J,rfl⟩:=hR.1 hc;simp only[hx,hi];exact⟨h.1.1,h.1.2,J,h.2⟩
   ·exact h.elim
  ·rename_i hx hi
   split at h
   ·rename_i g j p;obtain⟨⟨g1,g2,g3,g4⟩,h⟩:=h;simp only[hx,hi,g,j,p];exact⟨g1,g2,g3,g4,h⟩
   ·exact h.elim
  ·exact h.elim
 case slice T x lo hi M=>
  cases M with
  |none=>exact aud K h
  |some m=>simp only[fR,w]at h;exact h
 case lookup T x i ok=>
  unfold tv at h
  split at h
  case h_2=>exact h.elim
  rename_i L hi;simp only[L,hi]
  split at h
  case h_2=>exact h.elim
  rename_i z v;simp only[v]
  split at h
  ·rename_i hx;simp only[hx];exact h
  ·rename_i O hx;simp only[hx]
   split at h
   case h_2=>exact h.elim
   rename_i r u;refine⟨h.1,?_⟩;simp only[u];cases r<;>exact h.2
  ·rename_i b hx;simp only[hx]
   split at h
   case h_2=>exact h.elim
   rename_i q
   split at h
   case h_2=>exact h.elim
   rename_i r u;refine⟨h.1,?_⟩;simp only[q,u];cases r<;>exact h.2
  ·exact h.elim
 case mapUpdate T m k x|insert T m k x=>
  unfold nq at h
  split at h
  case h_2=>exact h.elim
  rename_i g j p C;simp only[g,j,p,C]
  split at h
  case h_2=>exact h.elim
  rename_i q
  split at h
  case h_2=>exact h.elim
  rename_i u;refine⟨h.1,?_⟩;simp only[q,u];exact h.2
 case range T x=>
  unfold sU at h
  split at h
  ·rename_i hx;simp only[hx];exact h
  ·exact h.elim
 case next it s=>
  cases s with
  |false=>simp only[fR,w]at h
  |true=>
   dsimp only at h⊢;unfold tE at h
   split at h
   case h_2=>exact h.elim
   rename_i hx;simp only[hx]
   split at h
   case h_2=>exact h.elim
   rename_i q;simp only[q];have h:=h.2
   split
   ·rename_i hc;rw[if_pos hc]at h;exact h
   ·rename_i hc;rw[if_neg hc]at h;exact h
 case makeSlice T l c=>
  unfold tG at h
  split at h
  ·rename_i g j p C;simp only[g,j,p,C];exact⟨h.1.1,h.1.2.1,h.1.2.2.1,h.1.2.2.2,h.2⟩
  ·exact h.elim
 case nilCheck x=>
  unfold sO at h
  split at h
  ·rename_i hx;simp only[hx];rw[hx]at h;exact h.2
  ·rename_i hx;simp only[hx];rw[hx]at h;exact h.2
  ·rename_i hx;simp only[hx];rw[hx]at h;exact h.2
  ·exact h.elim
 case call c=>
  split at h
  ·rename_i hc
   split at h
   ·rename_i x hx;unfold tS at h
    split at h
    ·rename_i hl;simp only[bp]at h;simp only[hc,hx,hV,h7,hl];exact⟨h.1.1,h.1.2,h.2⟩
    ·exact h.elim
   ·exact h.elim
  ·rename_i hc
   split at h
   ·rename_i s x hx;simp only[hc,hx,hV,h7];exact⟨h.1,Y2 K h.2⟩
   ·exact h.elim
  ·rename_i hc
   split at h
   ·rename_i d x hx;simp only[hc,hx,hV,h7];obtain⟨I,h⟩:=h;unfold copyV at h
    split at h
    case h_2=>exact h.elim
    rename_i g j p
    split at h
    case h_2=>exact h.elim
    rename_i q;simp only[bp]at h;obtain⟨⟨⟨A,a2⟩,a3,a4,a5,B,G⟩,hk⟩:=h;simp only[g,j,p,q];exact⟨A,a2,I,a3,a4,a5,B,G,hk⟩
   ·exact h.elim
  ·rename_i hc;unfold lT at h
   split at h
   case h_2=>exact h.elim
   rename_i hx
   split at h
   case h_2=>exact h.elim
   rename_i u;simp only[hc,hx,u];exact h.2
  ·rename_i hc;unfold lT at h
   split at h
   case h_2=>exact h.elim
   rename_i hx
   split at h
   case h_2=>exact h.elim
   rename_i u;simp only[hc,hx,u];exact h.2
  ·unfold fR at h;simp only[w]at h;exact h
 all_goals first
  |exact h
  |(unfold fR at h
    simp only[w]at h;exact h)
  |(unfold fR at h
    simp only[w]at h)
end
section
variable{P:db}{ah:dl->Bool}
def eO(dst:Option Tmp)(s:St)(K:St->Prop)(e:aZ):Prop:=K (e.app dst s)
def Cv(dst:Option Tmp)(s:St)(K:St->Prop)(v:AV)(H:Heap):Prop:=K ⟨put dst v s.env,H⟩
def tq(P:db)(f:AV)(args:List AV)(H:Heap)(K:AV->Heap->Prop):Prop:=
 match f with
 | .p (.func g fi ca)=>iH P false g (fi.map .p++args++ca.map .p) H K
 | .func g fi ca=>iH P false g (fi++args++ca) H K
 | .map b=>∃H' v,gX P b H args H' v/\K v H'
 |_=>False
def sW(P:db)(f:AV)(args:List AV)(H:Heap)(K:aZ->Prop):Prop:=
 match f with
 | .p (.func g fi ca)=>iO P g (fi.map .p++args++ca.map .p) H K
 | .func g fi ca=>iO P g (fi++args++ca) H K
 | .map b=>∃e,vk P b args H.length e/\re H e/\K e
 |_=>False
def dI(P:db)(ah:dl->Bool)(o:Oper)(K:St->Prop)(s:St):Prop:=
 match o.op with
 | .call {callee:=.value f,args,.. }=>tq P (ev s.env f) (args.toList.map (ev s.env)) s.heap (Cv o.dst s K)
 |_=>lV P ah o s.env s.heap (eO o.dst s K)
def dJ(P:db)(ah:dl->Bool)(o:Oper)(s:St)(K:aZ->Prop):Prop:=
 match o.op with
 | .call {callee:=.value f,args,.. }=>sW P (ev s.env f) (args.toList.map (ev s.env)) s.heap K
 |_=>lV P ah o s.env s.heap K
theorem asw{o:Oper}{K:St->Prop}{s:St}(h:dI P ah o K s):kr P ah false o K s:=by
 unfold dI at h;unfold kr
 split at h
 ·rename_i f args b a;simp only[a];unfold tq at h
  split at h
  ·rename_i hf;simp only[hf];exact h
  ·rename_i hf;simp only[hf];exact h
  ·rename_i hf;simp only[hf];exact h
  ·exact h.elim
 ·rename_i c
  split
  ·rename_i f args b a;exact(c _ _ _ a).elim
  ·exact Rx h
theorem atK{o:Oper}{K:aZ->Prop}{s:St}(h:dJ P ah o s K):jU P ah o s K:=by
 unfold dJ at h;unfold jU
 split at h
 ·rename_i f args b a;simp only[a];unfold sW at h
  split at h
  ·rename_i hf;simp only[hf];exact h
  ·rename_i hf;simp only[hf];exact h
  ·rename_i hf;simp only[hf];exact h
  ·exact h.elim
 ·rename_i c
  split
  ·rename_i f args b a;exact(c _ _ _ a).elim
  ·exact Rx h
def gL(P:db)(ah:dl->Bool)(a:Array Oper):List Oper->(St->Prop)->St->Prop
 |[],K,s=>K s
 |o::r,K,s=>match o.guard with
  |none=>dI P ah o (gL P ah a r K) s
  |some (j,want)=>match guardOf a j s.env with
   | .p (.bool t)=>if t=want then dI P ah o (gL P ah a r K) s else gL P ah a r K ⟨put o.dst (.p (.aD [])) s.env,s.heap⟩
   | .p (.aD [])=>gL P ah a r K ⟨put o.dst (.p (.aD [])) s.env,s.heap⟩
   |_=>False
def gW(P:db)(ah:dl->Bool)(a:Array Oper):List Oper->Nat->List Touch->(St->Prop)->St->Prop
 |[],_,acc,K,s=>lB a acc=true/\K s
 |o::r,i,acc,K,s=>match o.guard with
  |none=>dJ P ah o s fun e=>gW P ah a r (i+1) (iI i s.heap.length e acc) K (e.app o.dst s)
  |some (j,want)=>match guardOf a j s.env with
   | .p (.bool t)=>if t=want then dJ P ah o s fun e=>gW P ah a r (i+1) (iI i s.heap.length e acc) K (e.app o.dst s)
    else gW P ah a r (i+1) acc K ⟨put o.dst (.p (.aD [])) s.env,s.heap⟩
   | .p (.aD [])=>gW P ah a r (i+1) acc K ⟨put o.dst (.p (.aD [])) s.env,s.heap⟩
   |_=>False
theorem Ba{b:Array Oper}:∀(l:List Oper){K a:St->Prop}{s:St},(∀s,K s->a s)->gL P ah b l K s->iJ P ah false b l a s
 |[],K,a,s,hk,h=>by simp only[gL]at h;simp only[iJ];exact hk s h
 |o::l,K,a,s,hk,h=>by
  have go:dI P ah o (gL P ah b l K) s->kr P ah false o (iJ P ah false b l a) s:=fun h=>by
   obtain⟨t,f,g⟩:=Nq false o s _ (asw h);exact g _ (Ba l hk f)
  simp only[gL]at h;simp only[iJ]
  split at h
  ·rename_i c;simp only[c];exact go h
  ·rename_i j i c;simp only[c]
   split at h
   ·rename_i t d;simp only[d]
    split at h
    ·rename_i e;rw[if_pos e];exact go h
    ·rename_i e;rw[if_neg e];exact Ba l hk h
   ·rename_i d;simp only[d];exact Ba l hk h
   ·exact h.elim
theorem AA{c:Array Oper}:∀(l:List Oper){i:Nat}{a:List Touch}{K b:St->Prop}{s:St},(∀s,K s->b s)->gW P ah c l i a K s->gV P ah c l i a b s
 |[],i,a,K,b,s,hk,h=>by simp only[gW]at h;simp only[gV];exact⟨h.1,hk s h.2⟩
 |o::l,i,a,K,b,s,hk,h=>by
  have go:dJ P ah o s (fun e=>gW P ah c l (i+1) (iI i s.heap.length e a) K (e.app o.dst s))->jU P ah o s (fun e=>gV P ah c l (i+1) (iI i s.heap.length e a) b (e.app o.dst s)):=fun h=>by
   obtain⟨e,k,m⟩:=Nr o s _ (atK h);exact m _ (AA l hk k)
  simp only[gW]at h;simp only[gV]
  split at h
  ·rename_i d;simp only[d];exact go h
  ·rename_i j n d;simp only[d]
   split at h
   ·rename_i t f;simp only[f]
    split at h
    ·rename_i g;rw[if_pos g];exact go h
    ·rename_i g;rw[if_neg g];exact AA l hk h
   ·rename_i f;simp only[f];exact AA l hk h
   ·exact h.elim
def vu(v:AV)(a b:St->Prop)(s:St):Prop:=
 match v with
 | .p (.bool t)=>if t then a s else b s
 |_=>False
def vW(K:St->Prop)(Q:bD->St->Prop)(e:bD)(s:St):Prop:=
 match e with
 | .normal=>K s
 |e=>Q e s
def dG(P:db)(ah:dl->Bool)(q:Cx):Code->(bD->St->Prop)->St->Prop
 | .skip,Q,s| .label _,Q,s=>Q .normal s
 | .region _ ops draw,Q,s=>if draw then gW P ah ops ops.toList 0 [] (Q .normal) s else gL P ah ops ops.toList (Q .normal) s
 | .seq a b,Q,s=>dG P ah q a (vW (dG P ah q b Q) Q) s
 | .cond c a b,Q,s=>vu (ev s.env c) (dG P ah q a Q) (dG P ah q b Q) s
 | .block id b,Q,s=>dG P ah q b (pD id Q) s
 | .scope b,Q,s=>dG P ah q b Q s
 | .loop b,Q,s=>∃I:Nat->St->Prop,(∃n t,cW q.2 s t/\I n t)/\∀n t,I n t->dG P ah q b (vo q.2 n I Q) t
 | .rangeFunc f d a b,Q,s=>q.2<=s.heap.length/\jO P (ev s.env f) s.heap.length (s.heap++[.loop ⟨.ready,none,q.1,d.toList,a,b,s.env⟩]) (iX s.heap.length s.env Q)
 | .exit id,Q,s=>Q (.exit id) s
 | .ret,Q,s=>Q .ret s
 |_,_,_=>False
theorem atf{Q a:bD->St->Prop}(hq:∀e s,Q e s->a e s){j:Option Code}{s:St}(h:kl Q j s):kl a j s:=by
 unfold kl at h⊢
 split at h
 ·exact hq _ _ h
 ·exact hq _ _ h
 ·exact hq _ _ h
 ·exact h.elim
theorem M7{Q a:bD->St->Prop}(hq:∀e s,Q e s->a e s){b:Nat}{env:Env}{H:Heap}(h:iX b env Q H):iX b env a H:=by
 unfold iX at h⊢
 split at h
 ·exact⟨h.1,atf hq h.2⟩
 ·exact h.elim
theorem MZ{it:AV}{b:Nat}{H:Heap}{K d:Heap->Prop}(hk:∀H,K H->d H)(h:jO P it b H K):jO P it b H d:=by
 unfold jO at h⊢
 split at h
 ·obtain⟨H',v,a,c⟩:=h;exact⟨H',v,a,hk _ c⟩
 ·obtain⟨H',v,a,c⟩:=h;exact⟨H',v,a,hk _ c⟩
 ·exact h.elim
theorem mI{q:Cx}:∀(c:Code){Q Q':bD->St->Prop}{s:St},(∀e s,Q e s->Q' e s)->dG P ah q c Q s->cC P ah q c Q' s
 | .skip,Q,Q',s,hq,h| .label _,Q,Q',s,hq,h=>by simp only[dG]at h;simp only[cC];exact hq _ _ h
 | .exit _,Q,Q',s,hq,h| .ret,Q,Q',s,hq,h=>by simp only[dG]at h;simp only[cC];exact hq _ _ h
 | .region id ops draw,Q,Q',s,hq,h=>by
  simp only[dG]at h;simp only[cC]
  split at h
  ·rename_i j;rw[if_pos j];exact AA _ (hq _) h
  ·rename_i j;rw[if_neg j];exact Ba _ (hq _) h
 | .seq a b,Q,Q',s,hq,h=>by
  simp only[dG]at h;simp only[cC];refine mI a (fun e s d=>?_) h;cases e with
  |normal=>exact mI b hq d
  |exit id=>exact hq _ _ d
  |ret=>exact hq _ _ d
 | .cond c a b,Q,Q',s,hq,h=>by
  simp only[dG]at h;simp only[cC];unfold vu at h
  split at h
  ·rename_i t m;simp only[m]
   split at h
   ·rename_i g;rw[if_pos g];exact mI a hq h
   ·rename_i g;rw[if_neg g];exact mI b hq h
  ·exact h.elim
 | .block id b,Q,Q',s,hq,h=>by
  simp only[dG]at h;simp only[cC];refine mI b (fun e s d=>?_) h;cases e with
  |normal=>exact hq _ _ d
  |exit i=>
   simp only[pD]at d
   by_cases hi:i=id
   ·simp only[hi,if_true]at d⊢;exact hq _ _ d
   ·simp only[hi,if_false]at d⊢;exact hq _ _ d
  |ret=>exact hq _ _ d
 | .scope b,Q,Q',s,hq,h=>by simp only[dG]at h;simp only[cC];exact mI b hq h
 | .loop b,Q,Q',s,hq,h=>by
  simp only[dG]at h;simp only[cC];obtain⟨I,k,l⟩:=h;refine⟨I,k,fun n t hI=>mI b (fun e s d=>?_) (l n t hI)⟩;cases e with
  |normal=>exact d
  |exit id=>exact hq _ _ d
  |ret=>exact hq _ _ d
 | .rangeFunc f o a b,Q,Q',s,hq,h=>by
  simp only[dG]at h;simp only[cC];exact⟨h.1,s.env,fun _=>rfl,MZ (fun H=>M7 hq) h.2⟩
 | .goto _,_,_,_,_,h| .refuse _,_,_,_,_,h=>by simp[dG]at h
end
section
variable{P:db}{ah:dl->Bool}{q:Cx}
theorem Q0{Q:bD->St->Prop}{s:St}:dG P ah q .skip Q s=Q .normal s:=(rfl)
theorem PN{l:Nat}{Q:bD->St->Prop}{s:St}:dG P ah q (.label l) Q s=Q .normal s:=(rfl)
theorem Q1{id:Nat}{Q:bD->St->Prop}{s:St}:dG P ah q (.exit id) Q s=Q (.exit id) s:=(rfl)
theorem U1{Q:bD->St->Prop}{s:St}:dG P ah q .ret Q s=Q .ret s:=(rfl)
theorem PL{b:Code}{Q:bD->St->Prop}{s:St}:dG P ah q (.scope b) Q s=dG P ah q b Q s:=(rfl)
theorem Q2{id:Nat}{l:List Oper}{Q:bD->St->Prop}{s:St}:dG P ah q (.region id l.toArray true) Q s=gW P ah l.toArray l 0 [] (Q .normal) s:=by simp[dG]
theorem PM{id:Nat}{l:List Oper}{Q:bD->St->Prop}{s:St}:dG P ah q (.region id l.toArray false) Q s=gL P ah l.toArray l (Q .normal) s:=by simp[dG]
theorem U2{a b:Code}{Q:bD->St->Prop}{s:St}:dG P ah q (.seq a b) Q s=dG P ah q a (vW (dG P ah q b Q) Q) s:=(rfl)
theorem PO{id:Nat}{b:Code}{Q:bD->St->Prop}{s:St}:dG P ah q (.block id b) Q s=dG P ah q b (pD id Q) s:=(rfl)
theorem Q3{c:c9}{a b:Code}{Q:bD->St->Prop}{s:St}:dG P ah q (.cond c a b) Q s=vu (ev s.env c) (dG P ah q a Q) (dG P ah q b Q) s:=(rfl)
theorem L6{K:St->Prop}{Q:bD->St->Prop}{s:St}:vW K Q .normal s=K s:=(rfl)
theorem Nt{id:Nat}{K:St->Prop}{Q:bD->St->Prop}{s:St}:vW K Q (.exit id) s=Q (.exit id) s:=(rfl)
theorem Ov{K:St->Prop}{Q:bD->St->Prop}{s:St}:vW K Q .ret s=Q .ret s:=(rfl)
theorem Ms{t:Bool}{a b:St->Prop}{s:St}:vu (.p (.bool t)) a b s=if t then a s else b s:=(rfl)
def yI(P:db)(ah:dl->Bool)(b:Array Oper)(r:List Oper)(i:Nat)(a:List Touch)(K:St->Prop)(dst:Option Tmp)(s:St)(e:aZ):Prop:=
 gW P ah b r (i+1) (iI i s.heap.length e a) K (e.app dst s)
theorem OY{b:Array Oper}{r:List Oper}{i:Nat}{a:List Touch}{K:St->Prop}{dst:Option Tmp}{env:Env}{heap:Heap}{v:AV}{al aM:List (Nat×Obj)}{aX:List Obj}:
 yI P ah b r i a K dst ⟨env,heap⟩ ⟨v,al,aM,aX⟩=gW P ah b r (i+1) (iI i heap.length ⟨v,al,aM,aX⟩ a) K ⟨put dst v env,ba heap aM++aX⟩:=(rfl)
theorem QC{dst:Option Tmp}{env:Env}{heap:Heap}{K:St->Prop}{v:AV}{al aM:List (Nat×Obj)}{aX:List Obj}:eO dst ⟨env,heap⟩ K ⟨v,al,aM,aX⟩=K ⟨put dst v env,ba heap aM++aX⟩:=(rfl)
theorem Qc{dst:Option Tmp}{env:Env}{heap H:Heap}{K:St->Prop}{v:AV}:Cv dst ⟨env,heap⟩ K v H=K ⟨put dst v env,H⟩:=(rfl)
def Bg(P:db)(ah:dl->Bool)(b:Array Oper)(o:Oper)(r:List Oper)(i:Nat)(a:List Touch)(K:St->Prop)(c:Bool)(s:St)(g:AV):Prop:=
 match g with
 | .p (.bool t)=>if t=c then dJ P ah o s (yI P ah b r i a K o.dst s)else gW P ah b r (i+1) a K ⟨put o.dst (.p (.aD [])) s.env,s.heap⟩
 | .p (.aD [])=>gW P ah b r (i+1) a K ⟨put o.dst (.p (.aD [])) s.env,s.heap⟩
 |_=>False
def Bw(P:db)(ah:dl->Bool)(a:Array Oper)(o:Oper)(r:List Oper)(K:St->Prop)(b:Bool)(s:St)(g:AV):Prop:=
 match g with
 | .p (.bool t)=>if t=b then dI P ah o (gL P ah a r K) s else gL P ah a r K ⟨put o.dst (.p (.aD [])) s.env,s.heap⟩
 | .p (.aD [])=>gL P ah a r K ⟨put o.dst (.p (.aD [])) s.env,s.heap⟩
 |_=>False
theorem QZ{b:Array Oper}{i:Nat}{a:List Touch}{K:St->Prop}{s:St}:gW P ah b [] i a K s=(lB b a=true/\K s):=(rfl)
theorem PK{b:Array Oper}{i c:Nat}{pos:String}{a:List Touch}{K:St->Prop}{s:St}{dst:Option Tmp}{op:Op}{af:Array Edge}{r:List Oper}:
 gW P ah b ({dst,op,type:=c,pos,after:=af,guard:=none}::r) i a K s=dJ P ah {dst,op,type:=c,pos,after:=af,guard:=none} s (yI P ah b r i a K dst s):=(rfl)
theorem OB{a:Array Oper}{i d j:Nat}{b:Bool}{pos:String}{c:List Touch}{K:St->Prop}{s:St}{dst:Option Tmp}{op:Op}{af:Array Edge}{r:List Oper}:
 gW P ah a ({dst,op,type:=d,pos,after:=af,guard:=some (j,b)}::r) i c K s=Bg P ah a {dst,op,type:=d,pos,after:=af,guard:=some (j,b)} r i c K b s (guardOf a j s.env):=(rfl)
theorem QX{a:Array Oper}{K:St->Prop}{s:St}:gL P ah a [] K s=K s:=(rfl)
theorem PI{a:Array Oper}{b:Nat}{pos:String}{K:St->Prop}{s:St}{dst:Option Tmp}{op:Op}{af:Array Edge}{r:List Oper}:
 gL P ah a ({dst,op,type:=b,pos,after:=af,guard:=none}::r) K s=dI P ah {dst,op,type:=b,pos,after:=af,guard:=none} (gL P ah a r K) s:=(rfl)
theorem OA{a:Array Oper}{c j:Nat}{b:Bool}{pos:String}{K:St->Prop}{s:St}{dst:Option Tmp}{op:Op}{af:Array Edge}{r:List Oper}:
 gL P ah a ({dst,op,type:=c,pos,after:=af,guard:=some (j,b)}::r) K s=Bw P ah a {dst,op,type:=c,pos,after:=af,guard:=some (j,b)} r K b s (guardOf a j s.env):=(rfl)
end
section Gr
variable{P:db}{ah:dl->Bool}{q:Cx}
end Gr
section ops
variable{P:db}{ah:dl->Bool}{dst:Option Tmp}{ty:Nat}{pos:String}{af:Array Edge}{g:Option (Nat×Bool)}{env:Env}{heap:Heap}{K:aZ->Prop}{L:St->Prop}
theorem R8{x:c9}:dJ P ah ⟨dst,.move x,ty,pos,af,g⟩ ⟨env,heap⟩ K=K {v:=ev env x}:=(rfl)
theorem OW{x:c9}:dJ P ah ⟨dst,.assign x,ty,pos,af,g⟩ ⟨env,heap⟩ K=K {v:=ev env x}:=(rfl)
theorem R6{c a b:c9}:dJ P ah ⟨dst,.pick c a b,ty,pos,af,g⟩ ⟨env,heap⟩ K=bp (tA (ev env c) (ev env a) (ev env b)) K:=(rfl)
theorem Qp{T:da}:dJ P ah ⟨dst,.alloc T,ty,pos,af,g⟩ ⟨env,heap⟩ K=bp (sZ P T heap.length) K:=(rfl)
theorem SV{T:da}{x:c9}:dJ P ah ⟨dst,.box T x,ty,pos,af,g⟩ ⟨env,heap⟩ K=bp (vI P T heap.length (ev env x)) K:=(rfl)
theorem Qo{T:da}{a:Array (Nat×c9)}:dJ P ah ⟨dst,.build T a,ty,pos,af,g⟩ ⟨env,heap⟩ K=bp (sX P T (a.toList.map fun(i,x)=>(i,ev env x))) K:=(rfl)
theorem LD{T:da}{n:Nat}{a:Array (Nat×c9)}:dJ P ah ⟨dst,.buildSlice T n a,ty,pos,af,g⟩ ⟨env,heap⟩ K=bp (sf P T n (a.toList.map fun(i,x)=>(i,ev env x)) heap.length) K:=(rfl)
theorem RE{T:da}{a:c9}:dJ P ah ⟨dst,.load T a,ty,pos,af,g⟩ ⟨env,heap⟩ K=bp (qY P T heap (ev env a)) K:=(rfl)
theorem Ql{T:da}{a x:c9}:dJ P ah ⟨dst,.store T a x,ty,pos,af,g⟩ ⟨env,heap⟩ K=bp (qM P T heap (ev env a) (ev env x)) K:=(rfl)
theorem SU{op:dz}{T a:da}{x y:c9}:dJ P ah ⟨dst,.binOp op T x y a,ty,pos,af,g⟩ ⟨env,heap⟩ K=bp (fC P op T (nr y) heap (ev env x) (ev env y)) K:=(rfl)
theorem SZ{op:UnOp}{T:da}{x:c9}:dJ P ah ⟨dst,.unOp op T x,ty,pos,af,g⟩ ⟨env,heap⟩ K=bp (ub op (ev env x)) K:=(rfl)
theorem RG{S D:da}{x:c9}:dJ P ah ⟨dst,.convert S D x,ty,pos,af,g⟩ ⟨env,heap⟩ K=bp (tj P S D heap (ev env x)) K:=(rfl)
theorem N5{t:c9}{i:Nat}:dJ P ah ⟨dst,.extract t i,ty,pos,af,g⟩ ⟨env,heap⟩ K=bp (sC (ev env t) i) K:=(rfl)
theorem L8{T:da}{a:c9}{f:Nat}:dJ P ah ⟨dst,.fieldAddr T a f,ty,pos,af,g⟩ ⟨env,heap⟩ K=bp (qo P T (ev env a) f) K:=(rfl)
theorem L7{T:da}{x i:c9}:dJ P ah ⟨dst,.indexAddr T x i,ty,pos,af,g⟩ ⟨env,heap⟩ K=bp (qm P T heap (ev env x) (ev env i)) K:=(rfl)
theorem JQ{T:da}{x i:c9}:dJ P ah ⟨dst,.index T x i,ty,pos,af,g⟩ ⟨env,heap⟩ K=bp (s9 P T (ev env x) (ev env i)) K:=(rfl)
theorem SW{x:c9}{a:Array da}:dJ P ah ⟨dst,.call {callee:=.builtin .len,args:=#[x],argTypes:=a},ty,pos,af,g⟩ ⟨env,heap⟩ K=bp (tS P (a.getD 0 0) a.size heap (ev env x)) K:=(rfl)
theorem RH{f:c9}{args:List c9}{a:Array da}:dJ P ah ⟨dst,.call {callee:=.value f,args:=args.toArray,argTypes:=a},ty,pos,af,g⟩ ⟨env,heap⟩ K=sW P (ev env f) (args.map (ev env)) heap K:=(rfl)
theorem Rq{x:c9}:dI P ah ⟨dst,.move x,ty,pos,af,g⟩ L ⟨env,heap⟩=eO dst ⟨env,heap⟩ L {v:=ev env x}:=(rfl)
theorem Od{x:c9}:dI P ah ⟨dst,.assign x,ty,pos,af,g⟩ L ⟨env,heap⟩=eO dst ⟨env,heap⟩ L {v:=ev env x}:=(rfl)
theorem Ro{c a b:c9}:dI P ah ⟨dst,.pick c a b,ty,pos,af,g⟩ L ⟨env,heap⟩=bp (tA (ev env c) (ev env a) (ev env b)) (eO dst ⟨env,heap⟩ L):=(rfl)
theorem P0{T:da}:dI P ah ⟨dst,.alloc T,ty,pos,af,g⟩ L ⟨env,heap⟩=bp (sZ P T heap.length) (eO dst ⟨env,heap⟩ L):=(rfl)
theorem Us{T:da}{x:c9}:dI P ah ⟨dst,.box T x,ty,pos,af,g⟩ L ⟨env,heap⟩=bp (vI P T heap.length (ev env x)) (eO dst ⟨env,heap⟩ L):=(rfl)
theorem PZ{T:da}{a:Array (Nat×c9)}:dI P ah ⟨dst,.build T a,ty,pos,af,g⟩ L ⟨env,heap⟩=bp (sX P T (a.toList.map fun(i,x)=>(i,ev env x))) (eO dst ⟨env,heap⟩ L):=(rfl)
theorem Ly{T:da}{n:Nat}{a:Array (Nat×c9)}:dI P ah ⟨dst,.buildSlice T n a,ty,pos,af,g⟩ L ⟨env,heap⟩=bp (sf P T n (a.toList.map fun(i,x)=>(i,ev env x)) heap.length) (eO dst ⟨env,heap⟩ L):=(rfl)
theorem Rr{T:da}{a:c9}:dI P ah ⟨dst,.load T a,ty,pos,af,g⟩ L ⟨env,heap⟩=bp (qY P T heap (ev env a)) (eO dst ⟨env,heap⟩ L):=(rfl)
theorem Qe{T:da}{a x:c9}:dI P ah ⟨dst,.store T a x,ty,pos,af,g⟩ L ⟨env,heap⟩=bp (qM P T heap (ev env a) (ev env x)) (eO dst ⟨env,heap⟩ L):=(rfl)
theorem Ur{op:dz}{T a:da}{x y:c9}:dI P ah ⟨dst,.binOp op T x y a,ty,pos,af,g⟩ L ⟨env,heap⟩=bp (fC P op T (nr y) heap (ev env x) (ev env y)) (eO dst ⟨env,heap⟩ L):=(rfl)
theorem Uw{op:UnOp}{T:da}{x:c9}:dI P ah ⟨dst,.unOp op T x,ty,pos,af,g⟩ L ⟨env,heap⟩=bp (ub op (ev env x)) (eO dst ⟨env,heap⟩ L):=(rfl)
theorem Rt{S D:da}{x:c9}:dI P ah ⟨dst,.convert S D x,ty,pos,af,g⟩ L ⟨env,heap⟩=bp (tj P S D heap (ev env x)) (eO dst ⟨env,heap⟩ L):=(rfl)
theorem M6{t:c9}{i:Nat}:dI P ah ⟨dst,.extract t i,ty,pos,af,g⟩ L ⟨env,heap⟩=bp (sC (ev env t) i) (eO dst ⟨env,heap⟩ L):=(rfl)
theorem LW{T:da}{a:c9}{f:Nat}:dI P ah ⟨dst,.fieldAddr T a f,ty,pos,af,g⟩ L ⟨env,heap⟩=bp (qo P T (ev env a) f) (eO dst ⟨env,heap⟩ L):=(rfl)
theorem LV{T:da}{x i:c9}:dI P ah ⟨dst,.indexAddr T x i,ty,pos,af,g⟩ L ⟨env,heap⟩=bp (qm P T heap (ev env x) (ev env i)) (eO dst ⟨env,heap⟩ L):=(rfl)
theorem PY{T:da}{x i:c9}:dI P ah ⟨dst,.index T x i,ty,pos,af,g⟩ L ⟨env,heap⟩=bp (s9 P T (ev env x) (ev env i)) (eO dst ⟨env,heap⟩ L):=(rfl)
theorem Ut{x:c9}{a:Array da}:dI P ah ⟨dst,.call {callee:=.builtin .len,args:=#[x],argTypes:=a},ty,pos,af,g⟩ L ⟨env,heap⟩=bp (tS P (a.getD 0 0) a.size heap (ev env x)) (eO dst ⟨env,heap⟩ L):=(rfl)
theorem Ru{f:c9}{args:List c9}{a:Array da}:dI P ah ⟨dst,.call {callee:=.value f,args:=args.toArray,argTypes:=a},ty,pos,af,g⟩ L ⟨env,heap⟩=tq P (ev env f) (args.map (ev env)) heap (Cv dst ⟨env,heap⟩ L):=(rfl)
theorem Qm{T:da}{x:c9}{lo hi:Option c9}:dJ P ah ⟨dst,.slice T x lo hi none,ty,pos,af,g⟩ ⟨env,heap⟩ K=bp (qO P T heap (ev env x) (lo.map (ev env)) (hi.map (ev env))) K:=(rfl)
theorem PW{T:da}{x:c9}{lo hi:Option c9}:dI P ah ⟨dst,.slice T x lo hi none,ty,pos,af,g⟩ L ⟨env,heap⟩=bp (qO P T heap (ev env x) (lo.map (ev env)) (hi.map (ev env))) (eO dst ⟨env,heap⟩ L):=(rfl)
theorem OU{T:da}{x i:c9}{ok:Bool}:dJ P ah ⟨dst,.lookup T x i ok,ty,pos,af,g⟩ ⟨env,heap⟩ K=bp (tv P T heap (ev env x) (ev env i) ok) K:=(rfl)
theorem Ob{T:da}{x i:c9}{ok:Bool}:dI P ah ⟨dst,.lookup T x i ok,ty,pos,af,g⟩ L ⟨env,heap⟩=bp (tv P T heap (ev env x) (ev env i) ok) (eO dst ⟨env,heap⟩ L):=(rfl)
theorem Ml{T:da}{m k x:c9}:dJ P ah ⟨dst,.mapUpdate T m k x,ty,pos,af,g⟩ ⟨env,heap⟩ K=bp (nq P T heap (ev env m) (ev env k) (ev env x)) K:=(rfl)
theorem LS{T:da}{m k x:c9}:dI P ah ⟨dst,.mapUpdate T m k x,ty,pos,af,g⟩ L ⟨env,heap⟩=bp (nq P T heap (ev env m) (ev env k) (ev env x)) (eO dst ⟨env,heap⟩ L):=(rfl)
theorem OV{T:da}{m k x:c9}:dJ P ah ⟨dst,.insert T m k x,ty,pos,af,g⟩ ⟨env,heap⟩ K=bp (nq P T heap (ev env m) (ev env k) (ev env x)) K:=(rfl)
theorem Oc{T:da}{m k x:c9}:dI P ah ⟨dst,.insert T m k x,ty,pos,af,g⟩ L ⟨env,heap⟩=bp (nq P T heap (ev env m) (ev env k) (ev env x)) (eO dst ⟨env,heap⟩ L):=(rfl)
theorem Qn{T:da}{x:c9}:dJ P ah ⟨dst,.range T x,ty,pos,af,g⟩ ⟨env,heap⟩ K=bp (sU P T heap.length (ev env x)) K:=(rfl)
theorem PX{T:da}{x:c9}:dI P ah ⟨dst,.range T x,ty,pos,af,g⟩ L ⟨env,heap⟩=bp (sU P T heap.length (ev env x)) (eO dst ⟨env,heap⟩ L):=(rfl)
theorem R7{it:c9}:dJ P ah ⟨dst,.next it true,ty,pos,af,g⟩ ⟨env,heap⟩ K=bp (tE heap (ev env it)) K:=(rfl)
theorem Rp{it:c9}:dI P ah ⟨dst,.next it true,ty,pos,af,g⟩ L ⟨env,heap⟩=bp (tE heap (ev env it)) (eO dst ⟨env,heap⟩ L):=(rfl)
theorem Mm{T:da}{l c:c9}:dJ P ah ⟨dst,.makeSlice T l c,ty,pos,af,g⟩ ⟨env,heap⟩ K=bp (tG P T heap.length (ev env l) (ev env c)) K:=(rfl)
theorem LU{T:da}{l c:c9}:dI P ah ⟨dst,.makeSlice T l c,ty,pos,af,g⟩ L ⟨env,heap⟩=bp (tG P T heap.length (ev env l) (ev env c)) (eO dst ⟨env,heap⟩ L):=(rfl)
theorem Mp{x:c9}:dJ P ah ⟨dst,.nilCheck x,ty,pos,af,g⟩ ⟨env,heap⟩ K=bp (sO (ev env x)) K:=(rfl)
theorem ML{x:c9}:dI P ah ⟨dst,.nilCheck x,ty,pos,af,g⟩ L ⟨env,heap⟩=bp (sO (ev env x)) (eO dst ⟨env,heap⟩ L):=(rfl)
theorem SY{args:Array c9}{a:Array da}:dJ P ah ⟨dst,.call {callee:=.builtin .min,args,argTypes:=a},ty,pos,af,g⟩ ⟨env,heap⟩ K=bp (lT false (args.toList.map (ev env))) K:=(rfl)
theorem Uv{args:Array c9}{a:Array da}:dI P ah ⟨dst,.call {callee:=.builtin .min,args,argTypes:=a},ty,pos,af,g⟩ L ⟨env,heap⟩=bp (lT false (args.toList.map (ev env))) (eO dst ⟨env,heap⟩ L):=(rfl)
theorem SX{args:Array c9}{a:Array da}:dJ P ah ⟨dst,.call {callee:=.builtin .max,args,argTypes:=a},ty,pos,af,g⟩ ⟨env,heap⟩ K=bp (lT true (args.toList.map (ev env))) K:=(rfl)
theorem Uu{args:Array c9}{a:Array da}:dI P ah ⟨dst,.call {callee:=.builtin .max,args,argTypes:=a},ty,pos,af,g⟩ L ⟨env,heap⟩=bp (lT true (args.toList.map (ev env))) (eO dst ⟨env,heap⟩ L):=(rfl)
theorem N4{T:da}:dJ P ah ⟨dst,.makeMap T none,ty,pos,af,g⟩ ⟨env,heap⟩ K=K {v:=.map heap.length,aX:=[.map false []]}:=(rfl)
theorem NL{T:da}:dI P ah ⟨dst,.makeMap T none,ty,pos,af,g⟩ L ⟨env,heap⟩=eO dst ⟨env,heap⟩ L {v:=.map heap.length,aX:=[.map false []]}:=(rfl)
theorem OX{s x:c9}{T X:da}:dJ P ah ⟨dst,.call {callee:=.builtin .append,args:=#[s,x],argTypes:=#[T,X]},ty,pos,af,g⟩ ⟨env,heap⟩ K=bp (qL P T X heap (ev env s) (ev env x)) K:=by simp[dJ,lV]
theorem Oe{s x:c9}{T X:da}:dI P ah ⟨dst,.call {callee:=.builtin .append,args:=#[s,x],argTypes:=#[T,X]},ty,pos,af,g⟩ L ⟨env,heap⟩=bp (qL P T X heap (ev env s) (ev env x)) (eO dst ⟨env,heap⟩ L):=by simp[dI,lV]
theorem RF{s x:c9}{T X:da}:dJ P ah ⟨dst,.call {callee:=.builtin .copy,args:=#[s,x],argTypes:=#[T,X]},ty,pos,af,g⟩ ⟨env,heap⟩ K=bp (copyV P T heap (ev env s) (ev env x)) K:=by simp[dJ,lV]
theorem Rs{s x:c9}{T X:da}:dI P ah ⟨dst,.call {callee:=.builtin .copy,args:=#[s,x],argTypes:=#[T,X]},ty,pos,af,g⟩ L ⟨env,heap⟩=bp (copyV P T heap (ev env s) (ev env x)) (eO dst ⟨env,heap⟩ L):=by simp[dI,lV]
theorem SQ{f:dl}{fi ca:List AV}{args:List AV}{M:AV->Heap->Prop}:tq P (.func f fi ca) args heap M=iH P false f (fi++args++ca) heap M:=(rfl)
theorem RI{f:dl}{fi ca:List AV}{args:List AV}:sW P (.func f fi ca) args heap K=iO P f (fi++args++ca) heap K:=(rfl)
theorem SR{f:dl}{fi ca:List PV}{args:List AV}{M:AV->Heap->Prop}:tq P (.p (.func f fi ca)) args heap M=iH P false f (fi.map .p++args++ca.map .p) heap M:=(rfl)
theorem SS{f:dl}{fi ca:List PV}{args:List AV}:sW P (.p (.func f fi ca)) args heap K=iO P f (fi.map .p++args++ca.map .p) heap K:=(rfl)
end ops
section
variable{P:db}
@[simp] theorem aTR{b:Bool}:aP (.bool b)=.leaf:=(rfl)
@[simp] theorem aT9{k:ed}{n:Int}:aP (.int k n)=.leaf:=(rfl)
@[simp] theorem aUe{l:List Nat}:aP (.str l)=.leaf:=(rfl)
@[simp] theorem aUa:aP .aH=.leaf:=(rfl)
@[simp] theorem aUb{l:List PV}:aP (.seq l)=.leaf:=(rfl)
@[simp] theorem aUd{u:da}{fs:List PV}:aP (.st u fs)=.agg u:=(rfl)
@[simp] theorem aTO{v:PV}:aa (.p v)=aP v:=(rfl)
@[simp] theorem aTQ{u:da}{fs:List AV}:aa (.st u fs)=.agg u:=(rfl)
@[simp] theorem aTP{b v e o l:Nat}:aa (.sl b v e o l)=.leaf:=(rfl)
@[simp] theorem aSP{u:da}{fs:List PV}:cS (.st u fs)=fs:=(rfl)
theorem atH{a:List ei}{Q:PV->Prop}{s:St}:BX P a Q .ret s=∃vs,fX P s a=some vs/\∃v,eQ s.heap 9 (oneOf vs)=some v/\Q v:=by simp[BX]
theorem Yn{a:List ei}{Q:PV->Prop}{s:St}:BX P a Q .normal s=∃vs,fX P s a=some vs/\∃v,eQ s.heap 9 (oneOf vs)=some v/\Q v:=by simp[BX]
attribute [simp] atH Yn jQ Q0 PN Q1 U1 PL Q2 PM U2 PO Q3 L6 Nt Ov Ms OY QC Qc QZ PK QX PI OB OA
 R8 OW R6 Qp SV Qo LD RE Ql SU SZ RG N5 L8 L7 JQ SW RH
 Rq Od Ro P0 Us PZ Ly Rr Qe Ur Uw Rt M6 LW LV PY Ut Ru SR SS Qm PW OU Ob Ml LS OV Oc Qn PX R7 Rp Mm LU Mp ML SY Uv SX Uu N4 NL OX Oe RF Rs SQ RI qL lN qO tv nq sU tE tG copyV sO lT iD dR fh fI jS rD mV uZ gk je mP ZO asa
 XE YX ZZ Xt Yb ZF
 aS put jo ev ofConst ba iI iU po fk l6 gD iR fj tA sZ vI jT sX sf fC vS G9 ub tj sC s9 tS qY qM qo qm lenOf iL jd mO bO
 nr fX qP oneOf eQ
end
end Go.an
