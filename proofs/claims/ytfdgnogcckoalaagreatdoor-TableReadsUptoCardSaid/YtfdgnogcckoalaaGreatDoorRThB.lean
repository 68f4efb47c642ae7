import Derived.Test.YtfdgnogcckoalaaGreatDoorRThA
import Derived.Lib.Strings
import Derived.Laws.Append
import Derived.Laws.StructEq
import Derived.Laws.Concat
import Derived.ChangeKeysEq
import Derived.MapKept
import Derived.Laws.RangeString
import Derived.Lib.UnsafeStr
import Derived.Laws.BytesArg
import Derived.Orders
/- Parts of a proof. -/
set_option linter.unusedSimpArgs false
set_option linter.unusedVariables false
set_option linter.unusedSectionVars false
open Array renaming getElem?_eq_some_iff->b1, getElem?_eq_getElem->b2, ext'->b3, getElem?_toList->b4, length_toList->b5, replicate->cb, toList_push->cc, getD_eq_getD_getElem?->ce, getElem?_push->ck, getD->cv
open BitVec renaming ofInt->cx
open Bool renaming and_eq_true->cy, or_eq_true->cE, false_eq_true->cN
open Go renaming run_underlying->cR, Operand->c6, TypeId->c7, Program->c8, Value->c9, execOp->da, FuncId->db, World->dg, MapEntry->dk, BinOp->dl, setRow_other->dp, run_storeCells_at->dq, setRow_heap->dz, IntKind->ea, TypeInfo->eb, ResultVar->ec, Frame->ed, Field->ee, Deferred->ei, step_leave_returned->ej, run_firstCells_some->en, mem_ready->eo, TypeDesc->eq, getD_set_ne->er, Steps->et
open Go.Builtin renaming firstCells->ew, append_->ez, lenOf->eL, zeroCells->e6, clear_->e7, copy_->e8, unsafeString_->e9, nextslicecap->fb, min2->fd, max2->fl, unsafeSliceData_->fm, min_->fv, max_->gb, cap_->gc
open Go.ByteArray renaming toList_eq->ge
open Go.Call renaming operands->gg
open Go.Instr renaming findNow->gi, sliceBounds->gj, findAsking->gm, checkKey->gt, slice->gx, findKey->gy, mapUpdate->gD, sliceBound->g0, lookup->g7, sliceAt->g8, sameNow->g9, next->ha
open Go.MapKept renaming run_getObj_map->hb, bytes_beq->hd
open Go.Op renaming operands->he, equalIn->hg, equal->hh, bytesLess->hj, eqFields->hm, eqItems->ho, stringOp->hp
open Go.Region renaming ready->ht, wanted->hv, binds->hw, schedule->hz
open Go.Region.linearise renaming go->hA
open Go.Result renaming andThen_ok->hB, andThen->hC
open Go.Sem renaming run_bind->hD, run_pure->hE, run->hF
open Go.Steps renaming one->hG, trans->hH, refl->hK
open Go.Utf8 renaming decode->hL
open Go.Value renaming oneCell'->hM, int->hN
open Go.World renaming freeze->hO, cell?->hP
open List renaming getElem?_eq_some_iff->hQ, getElem?_set_self->hR, length_append->hS, replicate->hT, map_cons->hU, append_nil->hV, mem_cons->hW, getElem?_eq_getElem->hX, mem_of_mem_take->hZ, mem_cons_of_mem->h0, getElem?_set_ne->h3, length_eq_zero_iff->h4, map_append->h5, mem_of_mem_drop->h6, map_nil->h7, all_eq_true->h8, size_toArray->h9, append_assoc->ih, contains_iff_mem->ii, any_eq_true->ik, flatten_append->ip, mem_singleton->ix, getElem?_append_left->iz, map_toArray->i0, take_of_length_le->i4, range->i5, map_map->i6, nil_append->i7, mem_append->i8, getElem?_eq_none->i9, drop_take->jp, replicate_succ->js, map_congr_left->j1, length_pos_iff->j2, getElem?_map->j3, length->j4, drop_zero->j5, map->j6, take_succ_cons->j7, mem_map_of_mem->j8, countP_congr->j9, countP_cons->kc, length_map->kd, sum_cons->kh, map_take->kk, mem_map->km, map_id->ko
open Nat renaming le_refl->kp, lt_irrefl->kt, lt_trichotomy->kv, add_zero->kw, zero_add->la, le_add_right->lb, add_mul->lc, zero_le->le, strongRecOn->li, zero_mul->lk, succ_mul->ll, ne_of_lt->lm, le_total->ln
open Ne renaming symm->lq
open Option renaming isSome_iff_exists->ls, map_none->lt, getD_some->lu, map_some->lv
open Option.some renaming injEq->lw, inj->lz
open PUnit renaming unit->l0
open Prod.mk renaming injEq->l1
open UInt8 renaming toNat_ofNat'->l2, toNat_inj->l3, ofNat->l4
namespace Go.au
set_option linter.unusedSectionVars false
variable[Gl]
section
variable{P:c8}{w:dg}{aa ah:Nat->Prop}{β:Bd}{H:Heap}
variable{o:Oper}{ρ:c6->AV}{base:Nat}
theorem kS{x:Option c6}{d:Nat}{R:Nat->Prop}(h:gT (x.map ρ) d R):
 ∃n,R n/\((x=none/\n=d)\/∃y k,x=some y/\ρ y=.p (.int k n)):=by
 cases x with
 |none=>exact⟨d,h,.inl ⟨rfl,rfl⟩⟩
 |some y=>
  simp only[lv,gT]at h
  split at h
  ·rename_i hx;cases hx
  ·rename_i k i hx;simp at hx;obtain⟨a,h⟩:=h;refine⟨i.toNat,h,.inr ⟨y,k,rfl,?_⟩⟩;rw[hx,Int.toNat_of_nonneg a]
  ·exact h.elim
theorem tf{lo hi:Option c6}{ρc:c6->c9}{b:Bool}{len cap d h l:Nat}(m:d=len)(n:(hi=none/\h=d)\/∃y k,hi=some y/\ρ y= .p (.int k h))(hl:(lo=none/\l=0)\/∃y k,lo=some y/\ρ y= .p (.int k l))
 (f:h<=cap)(g:l<=h)(e:∀y,(hi=some y\/lo=some y)->aw P w aa β H (ρ y) (ρc y)):(gj b len cap (lo.map ρc) (hi.map ρc) none).run P w=.ok (l,h,cap) w:=by
 subst m;rcases n with⟨rfl,rfl⟩|⟨y,k,rfl,i⟩<;>rcases hl with⟨rfl,rfl⟩|⟨z,o,rfl,j⟩
 ·simp[gj]
 ·have c:=e z (.inr rfl);rw[j]at c;simp only[aw,aB]at c;simp[gj,c,g0,asIntOf,g]
 ·have a:=e y (.inl rfl);rw[i]at a;simp only[aw,aB]at a;simp[gj,a,g0,asIntOf,f]
 ·have a:=e y (.inl rfl);rw[i]at a;simp only[aw,aB]at a;have c:=e z (.inr rfl);rw[j]at c;simp only[aw,aB]at c;simp[gj,a,c,g0,asIntOf,f,g]
theorem sZ{T e:c7}(b:P.underlying T=some (.slice e))(x:c9)(lo hi a:Option c9)(w:dg):(g8 T x lo hi a).run P w=(gx T x lo hi a).run P w:=by
 simp only[g8,hD,cR b,hB]
theorem VL{T:c7}(b:P.underlying T=some .string)(x:c9)(lo hi a:Option c9)(w:dg):(g8 T x lo hi a).run P w=(gx T x lo hi a).run P w:=by
 simp only[g8,hD,cR b,hB]
theorem pC{T:c7}{x y:c6}{lo hi b:Option c6}(a:o.op=.slice T x lo hi b)(h:hi=some y\/lo=some y):y∈o.op.operands:=by
 rw[a];simp only[he];rcases h with rfl|rfl<;>simp
theorem yy{T:c7}(h:iW P T=true):P.underlying T=some .string:=by
 unfold iW at h
 split at h
 ·assumption
 ·simp at h
theorem vC{ai:Nat}:∀{l:List AV},fk P ai l↔∀v∈l,ad v≠.bad/\bG P (ad v)=ai
 |[]=>by simp[fk]
 |v::l=>by simp[fk,vC (l:=l)]
theorem tG{sz ai:Nat}{a:List AV}{d:List (List c9)}(b:Row P w aa β H ai a d)(hs:fk P sz a)(g:a≠[]):ai=sz:=by
 cases a with
 |nil=>exact(g rfl).elim
 |cons v a=>
  rw[qM]at b;obtain⟨c,cs,rfl,e,f,_⟩:=b;have:=(vC.1 hs v s_).2;rw[<-f,(oh e).1,this]
theorem Nr{ai:Nat}{d:List PV}{e:List (List c9)}(h:bg P w aa (hT d.length ai) d e)(off len:Nat)(hl:off+len<=d.length):
 ∃a b c,e=a++b++c/\bg P w aa (hT ((d.drop off).take len).length ai) ((d.drop off).take len) b/\a.flatten.length=off*ai:=by
 have f:Row P w aa ⟨id,id⟩ [] ai (d.map .p) e:=mj.2 h;obtain⟨a,b,c,e1,e2,e3,_⟩:=kx f off len (by simpa using hl);rw[Cb,mj]at e2;exact⟨a,b,c,e1,e2,e3⟩
theorem Y1{T:c7}{x:c6}{lo hi M:Option c6}(r:o.op= .slice T x lo hi M){H0:Heap}{K:aU->Prop}(h:ow P T H0 (ρ x) (lo.map ρ) (hi.map ρ) (M.map ρ) K):
 ∃e,K e/\bt P o ρ base e/\(∀p∈e.ak,H0[p.1]?=some p.2)/\e.aG=[]:=by
 unfold ow at h;obtain⟨ao,h⟩:=h;obtain rfl:M=none:=by cases M<;>simp_all
 have I:x∈o.op.operands:=by rw[r];simp[he]
 split at h
 ·
  rename_i s hx;obtain⟨ae,h⟩:=h;have ab:=yy ae;obtain⟨l,h,C⟩:=kS h;obtain⟨f,h,D⟩:=kS h;obtain⟨A,B,h⟩:=h;refine⟨_,h,bt.same fun H w aa ah β n v m _=>?_,s_,rfl⟩;have j:=(m x I).1;rw[hx]at j;simp only[aw,aB]at j;obtain⟨bs,e1,e2⟩:=j;have af:s.length=bs.size:=by rw[e2];simp
  have u:=tf (P:=P) (w:=w) (aa:=aa) (β:=β) (H:=H) (b:=false) (cap:=bs.size) (ρ:=ρ) (ρc:=n) af C D o_ B (fun y z=>(m y (pC r z)).1);refine⟨.string (bs.extract f l),?_,?_,by simp[aC]⟩
  ·simp only[da,r,e1];refine eJ ?_;rw[VL ab];simp only[gx,hD,cR ab,hB,lt,Option.isSome_none];simp[u]
  ·simp only[aw,aB];refine⟨_,rfl,?_⟩;rw[e2,<-kk,<-List.map_drop,Go.Lib.extract_data,jp]
 ·
  rename_i hx;obtain⟨g,h⟩:=h;obtain⟨sz,g⟩:=ls.1 g;obtain⟨e,W,g⟩:=kN g;obtain⟨l,h,C⟩:=kS h;obtain⟨f,h,D⟩:=kS h;obtain⟨A,B,F⟩:=h;obtain rfl:l=0:=o_
  obtain rfl:f=0:=o_
  refine⟨_,F,bt.same fun H w aa ah β n v m _=>?_,s_,rfl⟩;have j:=(m x I).1;rw[hx]at j;simp only[aw,aB]at j;have u:=tf (P:=P) (w:=w) (aa:=aa) (β:=β) (H:=H) (b:=true) (cap:=0) (ρ:=ρ) (ρc:=n) (len:=0) (d:=0) rfl C D o_ B (fun y z=>(m y (pC r z)).1);refine⟨.slice none 0 0,?_,by rw[hx];simp[aw,aB],by rw[hx];simp[aC]⟩;simp only[da,r,j];refine eJ ?_;rw[sZ g.gN];simp only[gx,hD,cR g.gN,hB,lt,u,g.run];simp
 ·
  rename_i full q hx;obtain⟨l,h,C⟩:=kS h;obtain⟨f,h,D⟩:=kS h;obtain⟨A,B,h⟩:=h
  split at h
  case h_2=>exact h.elim
  rename_i sz g;obtain⟨S,h⟩:=h;obtain⟨e,W,g⟩:=kN g;refine⟨_,h,bt.same fun H w aa ah β n v m _=>?_,s_,rfl⟩;have j:=(m x I).1;rw[hx]at j;simp only[aw,aB]at j;obtain⟨al,off,cap,ai,X,v1,v2,v3,v4,v5,sp,U,v6⟩:=j;have V:cap≠f->sp=none:=fun h=>U.resolve_right o_;have u:=tf (P:=P) (w:=w) (aa:=aa) (β:=β) (H:=H) (b:=true) (cap:=cap) (ρ:=ρ) (ρc:=n) rfl C D o_ B (fun y z=>(m y (pC r z)).1);refine⟨.slice (some (if cap=f then⟨al,off,sp⟩else⟨al,off+f*sz,none⟩)) (l-f) (cap-f),?_,?_,by simp[aC]⟩
  ·simp only[da,r,v6];refine eJ ?_;rw[sZ g.gN];simp only[gx,hD,cR g.gN,hB,lt,u,g.run]
   by_cases hc:cap=f
   ·simp[hc]
   ·obtain rfl:=V hc;simp[hc,kU]
  ·have G:((q.take l).drop f).length=l-f:=by simp;omega
   simp only[aw,aB,G]
   by_cases E:q=[]
   ·subst E;simp at A;subst A;obtain rfl:f=0:=by omega
    by_cases hc:cap=0
    ·exact⟨al,off,cap,sz,[],by simp[bg],s_,by intro i hi;simp at hi,fun _=>by simpa using hc,s_,sp,.inr hc,by simp[hc]⟩
    ·exact⟨al,off,cap,sz,[],by simp[bg],s_,by intro i hi;simp at hi,fun hf=>by simp at hf;simpa using v4 hf,s_,none,.inl rfl,by simp[hc]⟩
   ·have O:ai=sz:=tG (w:=w) (aa:=aa) (β:=β) (H:=H) (mj.2 v1) S (by simpa using E);subst O;obtain⟨a,b,c,e1,e2,e3⟩:=Nr v1 f (l-f) o_;rw[<-jp]at e2;have an:(q.drop f).take (l-f)=(q.take l).drop f:=by rw[jp]
    rw[G]at e2
    by_cases hc:cap=f
    ·obtain rfl:l=f:=by omega
     have N:b=[]:=by
      have:=(vu e2).2.2;simpa using this
     subst N;refine⟨al,off,cap-l,ai,[],by simpa using e2,fun _=>v2 E,by intro i hi;simp at hi,?_,o_,sp,.inr o_,by simp[hc]⟩;intro _;omega
    ·refine⟨al,off+f*ai,cap-f,ai,b,e2,fun _=>v2 E,?_,?_,o_,none,.inl rfl,by simp[hc]⟩
     ·have:=th v3 (pre:=a.flatten) (xs:=b.flatten) (post:=c.flatten) (by rw[e1];simp);rw[e3]at this;exact this
     ·intro hf;simp at hf;have:=v4 hf.1;omega
 ·
  rename_i q hx;obtain⟨l,h,C⟩:=kS h;obtain⟨f,h,D⟩:=kS h;obtain⟨A,B,h⟩:=h
  split at h
  case h_2=>exact h.elim
  rename_i sz g;obtain⟨S,h⟩:=h;obtain⟨e,W,g⟩:=kN g;refine⟨_,h,bt.same fun H w aa ah β n v m _=>?_,s_,rfl⟩;have j:=(m x I).1;rw[hx]at j;simp only[aw,aB]at j;rcases j with⟨rfl,j⟩|⟨al,off,cap,ai,X,v1,v2,v3,v5,sp,U,v6⟩
  ·simp at A;subst A;obtain rfl:f=0:=by omega
   have u:=tf (P:=P) (w:=w) (aa:=aa) (β:=β) (H:=H) (b:=true) (cap:=0) (ρ:=ρ) (ρc:=n) (len:=0) (d:=0) rfl C D o_ B (fun y z=>(m y (pC r z)).1);refine⟨.slice none 0 0,?_,by simp[aw,aB],by simp[aC]⟩;simp only[da,r,j];refine eJ ?_;rw[sZ g.gN];simp only[gx,hD,cR g.gN,hB,lt,u,g.run];simp
  have V:cap≠f->sp=none:=fun h=>U.resolve_right o_;have u:=tf (P:=P) (w:=w) (aa:=aa) (β:=β) (H:=H) (b:=true) (cap:=cap) (ρ:=ρ) (ρc:=n) rfl C D o_ B (fun y z=>(m y (pC r z)).1);refine⟨.slice (some (if cap=f then⟨al,off,sp⟩else⟨al,off+f*sz,none⟩)) (l-f) (cap-f),?_,?_,by simp[aC]⟩
  ·simp only[da,r,v6];refine eJ ?_;rw[sZ g.gN];simp only[gx,hD,cR g.gN,hB,lt,u,g.run]
   by_cases hc:cap=f
   ·simp[hc]
   ·obtain rfl:=V hc;simp[hc,kU]
  ·have G:((q.take l).drop f).length=l-f:=by simp;omega
   simp only[aw,aB,G];right
   by_cases E:q=[]
   ·subst E;simp at A;subst A;obtain rfl:f=0:=by omega
    by_cases hc:cap=0
    ·exact⟨al,off,cap,sz,[],by simp[bg],s_,by intro i hi;simp at hi,s_,sp,.inr hc,by simp[hc]⟩
    ·exact⟨al,off,cap,sz,[],by simp[bg],s_,by intro i hi;simp at hi,s_,none,.inl rfl,by simp[hc]⟩
   ·have O:ai=sz:=tG (w:=w) (aa:=aa) (β:=β) (H:=H) (mj.2 v1) S (by simpa using E);subst O;obtain⟨a,b,c,e1,e2,e3⟩:=Nr v1 f (l-f) o_;rw[<-jp]at e2;rw[G]at e2
    by_cases hc:cap=f
    ·obtain rfl:l=f:=by omega
     have N:b=[]:=by
      have:=(vu e2).2.2;simpa using this
     subst N;exact⟨al,off,cap-l,ai,[],by simpa using e2,fun _=>v2 E,by intro i hi;simp at hi,o_,sp,.inr o_,by simp[hc]⟩
    ·refine⟨al,off+f*ai,cap-f,ai,b,e2,fun _=>v2 E,?_,o_,none,.inl rfl,by simp[hc]⟩;have:=th v3 (pre:=a.flatten) (xs:=b.flatten) (post:=c.flatten) (by rw[e1];simp);rw[e3]at this;exact this
 ·
  rename_i b aq ai off len hx
  split at h
  case h_2=>exact h.elim
  rename_i k ap am q R;obtain⟨rfl,rfl,g,L,hlen,h⟩:=h;obtain⟨l,h,C⟩:=kS h;obtain⟨f,h,D⟩:=kS h;obtain⟨A,B,F⟩:=h;obtain⟨e,W,g⟩:=kN g
  have key:∀(H:Heap)(w:dg)(aa ah:Nat->Prop)(β:Bd)(n:c6->c9),b7 P w aa β H ah->(∀x∈o.op.operands,aw P w aa β H (ρ x) (n x)/\aC (aH H) (ρ x))->
   H[b]?=some (.arr k aq ai q)->q.length<=β.cap b/\(da n o).run P w=.ok (.value (.slice (some (if β.cap b-off=f then⟨β.al b,off*ai,none⟩else⟨β.al b,off*ai+f*ai,none⟩)) (l-f) (β.cap b-off-f))) w:=by
   intro H w aa ah β n v m t;have j:=(m x I).1;rw[hx]at j;simp only[aw,bO,bV]at j;obtain⟨_,_,j⟩:=j.2 k q t;have j:=j L;rcases v.cS b _ t with hold|⟨cs,aj,X,rest,k1,k2,k3,k4,k5,k6⟩
   ·exact(L hold).elim
   have u:=tf (P:=P) (w:=w) (aa:=aa) (β:=β) (H:=H) (b:=true) (cap:=β.cap b-off) (ρ:=ρ) (ρc:=n) rfl C D o_ B (fun y z=>(m y (pC r z)).1);refine⟨k5,?_⟩;simp only[da,r,j];refine eJ ?_;rw[sZ g.gN];simp only[gx,hD,cR g.gN,hB,lt,u,g.run]
   by_cases hc:β.cap b-off=f
   ·simp[hc]
   ·simp[hc,kU]
  split at F
  ·rename_i Y;subst Y;refine⟨_,F,bt.same fun H w aa ah β n v m ak=>?_,by simpa using R,rfl⟩;have t:H[b]?=some (.arr k aq ai q):=by simpa using ak
   obtain⟨ac,J⟩:=key H w aa ah β n v m t;refine⟨_,J,?_,?_⟩
   ·simp only[aw,bO,bV];refine⟨by simp[hM],fun ag ad hl=>?_⟩;unfold eA at hl;rw[t]at hl;cases hl;exact⟨o_,fun Q=>(L Q).elim,fun _=>by simp⟩
   ·simp only[aC];exact⟨_,t,kp _⟩
  ·rename_i Y
   split at F
   ·rename_i Z;subst Z;refine⟨_,F,bt.same fun H w aa ah β n v m ak=>?_,by simpa using R,rfl⟩;have t:H[b]?=some (.arr k aq ai q):=by simpa using ak
    obtain⟨ac,J⟩:=key H w aa ah β n v m t;refine⟨_,J,?_,by simp[aC]⟩;simp only[aw,aB]
    by_cases hc:β.cap b-off=f
    ·exact⟨β.al b,off*ai,β.cap b-off-f,ai,[],by simp[bg],s_,by intro i hi;simp at hi,s_,s_,by simp[hc]⟩
    ·exact⟨β.al b,off*ai+f*ai,β.cap b-off-f,ai,[],by simp[bg],s_,by intro i hi;simp at hi,s_,s_,by simp[hc]⟩
   ·rename_i Z;refine⟨_,F,bt.same fun H w aa ah β n v m ak=>?_,by simpa using R,rfl⟩;have t:H[b]?=some (.arr k aq ai q):=by simpa using ak
    obtain⟨ac,J⟩:=key H w aa ah β n v m t;refine⟨_,J,?_,?_⟩
    ·simp only[aw,bO,bV];refine⟨by simp[hM],fun ag ad hl=>?_⟩;unfold eA at hl;rw[t]at hl;cases hl;refine⟨o_,fun Q=>(L Q).elim,fun _=>?_⟩;have hc:¬(β.cap b-off=f):=by omega
     rw[if_neg hc,lc,Nat.sub_sub]
    ·simp only[aC];exact⟨_,t,kp _⟩
 ·exact h.elim
theorem XT{T:c7}{x:c6}{lo hi:Option c6}{d:c6}(g:o.op= .slice T x lo hi (some d)){H0:Heap}{K:aU->Prop}(h:qP P T H0 (ρ x) (lo.map ρ) (hi.map ρ) (ρ d) K):
 ∃e,K e/\bt P o ρ base e/\(∀p∈e.ak,H0[p.1]?=some p.2)/\e.aG=[]:=by
 unfold qP at h;have S:x∈o.op.operands:=by rw[g];simp[he]
 split at h
 case h_2=>exact h.elim
 rename_i b aq ai off len hx
 split at h
 case h_2=>exact h.elim
 rename_i k ag ac es V;obtain⟨rfl,rfl,c,E,hlen,X,h⟩:=h;obtain⟨i,h,Q⟩:=kS h;obtain⟨I,h,R⟩:=kS h;have J:gT ((some d).map ρ) 0 (fun m=>off+m<=es.length/\i<=m/\I<=i/\K {v:=.p .undef,ak:=[(b,.arr k aq ai es)]}):=h;obtain⟨B,h,U⟩:=kS J;obtain⟨ad,C,L,M⟩:=h;obtain⟨sz,c⟩:=ls.1 c;obtain⟨e,af,c⟩:=kN c;refine⟨_,M,bt.same fun H w aa ah β f W n ak=>?_,by simpa using V,rfl⟩;have F:H[b]?=some (.arr k aq ai es):=by simpa using ak
 have a:=(n x S).1;rw[hx]at a;simp only[aw,bO,bV]at a;obtain⟨_,_,a⟩:=a.2 k es F;have a:=a E;rcases W.cS b _ F with hold|⟨cs,Z,ab,rest,k1,k2,k3,k4,k5,k6⟩
 ·exact(E hold).elim
 have s:∃q,ρ d=.p (.int q B):=by
  rcases U with⟨h,_⟩|⟨y,q,A,a⟩
  ·cases h
  ·cases A;exact⟨q,a⟩
 obtain⟨q,s⟩:=s;have j:=(n d (by rw[g];simp[he])).1;rw[s]at j;simp only[aw,aB]at j;have O:∃y G,hi=some y/\ρ y=.p (.int G i):=by
  rcases Q with⟨rfl,_⟩|h
  ·simp at X
  ·exact h
 obtain⟨y,G,rfl,A⟩:=O;have l:=(n y (pC g (.inl rfl))).1;rw[A]at l;simp only[aw,aB]at l;have N:(gj true len (β.cap b-off) (lo.map f) (some (f y)) (some (f d))).run P w=.ok (I,i,B) w:=by
  have D:(B:Int)<=((β.cap b-off:Nat):Int):=o_
  rcases R with⟨rfl,rfl⟩|⟨z,ae,rfl,Y⟩
  ·simp[gj,j,l,g0,asIntOf,D,C]
  ·have u:=(n z (pC g (.inr rfl))).1;rw[Y]at u;simp only[aw,aB]at u;simp[gj,j,l,u,g0,asIntOf,D,C,L]
 have t:∃r,(g8 T (f x) (lo.map f) (some (f y)) (some (f d))).run P w=.ok r w:=by
  rw[sZ c.gN,a];simp only[gx,hD,cR c.gN,hB,N,c.run];exact⟨_,rfl⟩
 obtain⟨r,t⟩:=t;refine⟨r,?_,by simp only[aw,aB],by simp[aC]⟩;simp only[da,g,lv];exact eJ t
end
section
variable{P:c8}{w:dg}{aa ah:Nat->Prop}{β:Bd}{H:Heap}
variable{o:Oper}{ρ:c6->AV}{base:Nat}
theorem o8{H0 H:Heap}{a:AV}{c:List AV}(h:ib H0 a=some c)(ak:∀p∈dH H0 a,H[p.1]?=some p.2):ib H a=some c:=by
 cases a with
 |sl b aq ai off len=>
  simp only[ib]at h⊢;simp only[dH]at ak
  split at h
  case h_2=>simp at h
  rename_i k g f e d;rw[d]at ak;have:=ak _ (ix.2 rfl);simp only at this;rw[this];exact h
 |p v=>cases v<;>exact h
 |_=>simp[ib]at h
theorem nU{H0:Heap}{a:AV}:∀p∈dH H0 a,H0[p.1]?=some p.2:=by
 intro p b;unfold dH at b
 split at b
 all_goals first
  |(split at b
    ·rename_i o c;simp at b;subst b;exact c
    ·simp at b)
  |simp at b
theorem vq{sz m:Nat}{al off n c:Nat}{w:dg}{xs:List c9}(hl:xs.length=m*sz)(hc:ic w al off xs):(ew sz m (.slice (some ⟨al,off,none⟩) n c)).run P w=.ok xs.toArray w:=by
 refine en w sz m _ n c xs hl ?_;intro j v a;rw[kU];obtain⟨b,d⟩:=hQ.1 a;rw[hc j b,d]
theorem B5{sz n c:Nat}{a:Addr}{w:dg}:(ew sz 0 (.slice (some a) n c)).run P w=.ok #[] w:=
 en w sz 0 a n c [] s_ (fun j v b=>by simp at b)
theorem v7{sz:Nat}{a:AV}{u:List AV}{v:c9}(g:ib H a=some u)(G:b7 P w aa β H ah)(i:aw P w aa β H a v)(R:aC (aH H) a)(hs:fk P sz u):
 ∃d,Row P w aa β H sz u d/\aR (aH H) u/\eL v=pure u.length/\
  ∀w':dg,w'.heap=w.heap->∀m,m<=u.length->(ew sz m v).run P w'=.ok (d.take m).flatten.toArray w':=by
 have F:∀{f:List AV}{d:List (List c9)}(m:Nat),Row P w aa β H sz f d->m<=f.length->(d.take m).flatten.length=m*sz:=by
  intro f d m h j;obtain⟨x,y,z,e1,e2,e3,e4,e5⟩:=kx h 0 m o_;have hx:x=[]:=by have:=(gh e4).1;simpa using this
  have N:y.length=m:=by have:=(gh e2).1;simp at this;omega
  subst hx;have J:d.take m=y:=by rw[e1];simp[N]
  rw[J];have:=(gh e2).2;rw[this];simp[j]
 have cells:∀{al off:Nat}{d:List (List c9)}(w':dg),w'.heap=w.heap->ic w al off d.flatten->∀m,ic w' al off (d.take m).flatten:=by
  intro al off d w' q hc m;have I:ic w' al off d.flatten:=hc.same (by rw[q]);have:=th I (pre:=[]) (xs:=(d.take m).flatten) (post:=(d.drop m).flatten) (by
   rw[i7,<-ip,List.take_append_drop])
  simpa using this
 cases a with
 |p t=>
  cases t with
  |aK=>
   simp[ib]at g;subst g;simp only[aw,aB]at i;subst i;exact⟨[],iQ.2 rfl,by simp[aR],rfl,fun w' _ m j=>by simp[ew]⟩
  |bJ full f=>
   simp[ib]at g;subst g;simp only[aw,aB]at i;obtain⟨al,off,cap,ai,d,v1,v2,v3,v4,v5,sp,D,rfl⟩:=i;rcases D with rfl|rfl
   case inr=>
    obtain rfl:f=[]:=h4.1 o_;exact⟨[],iQ.2 rfl,by simp[aR],rfl,fun w' _ m j=>by
     obtain rfl:m=0:=by simpa using j
     exact B5⟩
   have h:Row P w aa β H ai (f.map .p) d:=mj.2 v1;have o:Row P w aa β H sz (f.map .p) d:=by
    by_cases n:f.map AV.p=[]
    ·rw[n]at h⊢;rw[iQ]at h⊢;exact h
    ·rw[<-tG h hs n];exact h
   refine⟨d,o,jw _ _,by simp[eL],fun w' q m j=>?_⟩;exact vq (F m o j) (cells w' q v3 m)
  |seq f=>
   simp[ib]at g;subst g;simp only[aw,aB]at i;rcases i with⟨rfl,rfl⟩|⟨al,off,cap,ai,d,v1,v2,v3,v5,sp,D,rfl⟩
   ·exact⟨[],iQ.2 rfl,by simp[aR],rfl,fun w' _ m j=>by simp[ew]⟩
   rcases D with rfl|rfl
   case inr=>
    obtain rfl:f=[]:=h4.1 o_;exact⟨[],iQ.2 rfl,by simp[aR],rfl,fun w' _ m j=>by
     obtain rfl:m=0:=by simpa using j
     exact B5⟩
   have h:Row P w aa β H ai (f.map .p) d:=mj.2 v1;have o:Row P w aa β H sz (f.map .p) d:=by
    by_cases n:f.map AV.p=[]
    ·rw[n]at h⊢;rw[iQ]at h⊢;exact h
    ·rw[<-tG h hs n];exact h
   refine⟨d,o,jw _ _,by simp[eL],fun w' q m j=>?_⟩;exact vq (F m o j) (cells w' q v3 m)
  |str s=>
   simp[ib]at g;subst g;simp only[aw,aB]at i;obtain⟨bs,rfl,rfl⟩:=i;have M:sz=1\/bs.data.toList=[]:=by
    cases B:bs.data.toList with
    |nil=>exact .inr rfl
    |cons a r=>
     rw[B]at hs;simp[fk,ad,aL,bG]at hs;exact .inl hs.1.symm
   have h:Row P w aa β H sz ((bs.data.toList.map (·.toNat)).map fun c=>.p (.int .u8 (c:Nat))) (bs.data.toList.map fun c=>[hN .u8 c.toNat]):=by
    rcases M with rfl|B
    ·generalize bs.data.toList=l
     induction l with
     |nil=>exact iQ.2 rfl
     |cons a r E=>exact qM.2 ⟨_,_,rfl,by simp[bp,aV],rfl,E⟩
    ·rw[B];exact iQ.2 rfl
   refine⟨_,h,by rw[cO];intro v i;simp at i;obtain⟨a,_,rfl⟩:=i;simp[aC],by simp[eL],fun w' _ m _=>?_⟩;have e:((bs.data.toList.map fun c=>[hN .u8 c.toNat]).take m).flatten=(bs.data.toList.take m).map fun c=>hN .u8 c.toNat:=by
    rw[<-kk];generalize bs.data.toList.take m=l
    induction l with
    |nil=>rfl
    |cons a r E=>simp[E]
   rw[e];simp only[ew,hE];congr 1;apply b3;simp[ByteArray.data_extract]
  |_=>simp[ib]at g
 |sl b aq ai off len=>
  simp only[ib]at g
  split at g
  case h_2=>simp at g
  rename_i k S Q f C
  split at g
  case isFalse=>simp at g
  rename_i hc;obtain⟨rfl,rfl,hl⟩:=hc;simp at g;subst g;simp only[aw,bO,bV]at i;obtain⟨_,v2,v3⟩:=i.2 k f C;have L:((f.drop off).take len).length=len:=by simp;omega
  by_cases A:di k f
  ·rw[v2 A];have K:=A.2;subst K;simp at hl;obtain⟨rfl,rfl⟩:=hl;exact⟨[],iQ.2 s_,by simp[aR],rfl,fun w' _ m j=>by simp[ew]⟩
  ·rw[v3 A];rcases G.cS b _ C with hold|⟨cs,O,d,rest,k1,k2,k3,k4,k5,k6⟩
   ·exact(A hold).elim
   obtain⟨x,y,z,e1,e2,e3,e4,e5⟩:=kx k2 off len hl;have o:Row P w aa β H sz ((f.drop off).take len) y:=by
    by_cases n:(f.drop off).take len=[]
    ·rw[n]at e2⊢;rw[iQ]at e2⊢;exact e2
    ·rw[<-tG e2 hs n];exact e2
   refine⟨y,o,?_,by rw[L];rfl,fun w' q m j=>?_⟩
   ·rw[cO];intro v i;exact cO.1 (G.refs b _ C) v (h6 (hZ i))
   ·refine vq (F m o j) (cells w' q ?_ m);rw[<-e3];exact mc k1 (post:=z.flatten++rest) (by rw[k3,e1];simp)
 |_=>simp[ib]at g
theorem XC{T X e:c7}{i:eb}{f:c9}{sz:Nat}(a:qJ P T sz e i)(b:iy P X=true)(y:i.zero=some f)(A:c7){p:Option Addr}{sLen sCap n:Nat}{j h:Array c9}(x:c9)
 (hx:eL x=pure n)(s:(ew sz sLen (.slice p sLen sCap)).run P w.drew=.ok j w.drew)(aS:(ew sz n x).run P w.drew=.ok h w.drew)(q:sCap<sLen+n)(g:sLen+n<=cM):
 ∃cap,sLen+n<=cap/\(ez #[T,X] A #[.slice p sLen sCap,x]).run P w=
  .ok (.slice (some ⟨w.heap.size,0,none⟩) (sLen+n) cap) {w.drew with heap:=w.heap.push (.cells (j++h++e6 f.cells (cap-(sLen+n))) e)}:=by
 refine⟨grownCap w (sLen+n) sCap e,by simp[grownCap,Question.cut],?_⟩;have o:∃d,P.underlying X=some d/\∀k,d≠.int k:=by
  unfold iy at b
  split at b
  ·simp at b
  ·rename_i d c v;exact⟨_,v,c⟩
  ·simp at b
 obtain⟨d,c,B⟩:=o;have r:¬(sLen+n<=sCap):=o_
 have m:¬(9223372036854775807<((sLen:Int)+(n:Int))):=by unfold cM at g;omega
 have C:fb (sLen+n) sCap*i.bytes<=281474976710656:=by
  refine growslice_fits q ?_;have:=Nat.mul_le_mul g (Nat.le_of_lt a.bytes);unfold cM at this;omega
 have l:¬(281474976710656<fb (sLen+n) sCap*i.bytes):=o_
 have t:(sizeOf e).run P w=.ok sz w:=a.run w;have u:∀w:dg,(typeInfo e).run P w=.ok i w:=fun w=>by simp[typeInfo,a.info]
 have z:∀w:dg,(zeroValue e).run P w=.ok f w:=fun w=>by simp[zeroValue,typeInfo,a.info,y]
 simp[ez,cR a.gN,cR c,t,u,z,hx,r,m,l,Question.forced,s,aS,newRow,grownCap,Array.append_assoc];rfl
theorem Ka{T X e:c7}{i:eb}{sz:Nat}(j:qJ P T sz e i)(c:iy P X=true)(t:c7){g off:Nat}{sLen sCap n:Nat}{b:Array c9}{h:c7}{a:List c9}(x:c9)
 (hx:eL x=pure n)(o:w.heap[g]?=some (.cells b h (0,0)))(aS:(ew sz n x).run P w=.ok a.toArray w)(l:∀u∈a,u.oneCell'=true)(q:sLen+n<=sCap)(p:off+sLen*sz+a.length<=b.size):
 (ez #[T,X] t #[.slice (some ⟨g,off,none⟩) sLen sCap,x]).run P w=
  .ok (.slice (some ⟨g,off,none⟩) (sLen+n) sCap) (w.setRow g (b.toList.take (off+sLen*sz)++a++b.toList.drop (off+sLen*sz+a.length)).toArray):=by
 have m:∃d,P.underlying X=some d/\∀k,d≠.int k:=by
  unfold iy at c
  split at c
  ·simp at c
  ·rename_i d f s;exact⟨_,s,f⟩
  ·simp at c
 obtain⟨d,f,v⟩:=m;have aI:=dq P g (off+sLen*sz) h a 0 b w o (by simpa using p) l;simp only[kw]at aI;have r:(sizeOf e).run P w=.ok sz w:=j.run w;simp[ez,cR j.gN,cR f,r,hx,q,aS,kU,aI]
theorem WB{T X e:c7}{i:eb}{sz:Nat}(f:qJ P T sz e i)(b:iy P X=true)(m:c7){p:Option Addr}{sLen sCap:Nat}(x:c9)
 (hx:eL x=pure 0)(aS:(ew sz 0 x).run P w=.ok #[] w)(g:sLen<=sCap):
 (ez #[T,X] m #[.slice p sLen sCap,x]).run P w=.ok (.slice p sLen sCap) w:=by
 have j:∃d,P.underlying X=some d/\∀k,d≠.int k:=by
  unfold iy at b
  split at b
  ·simp at b
  ·rename_i d c l;exact⟨_,l,c⟩
  ·simp at b
 obtain⟨d,c,n⟩:=j;have h:(sizeOf e).run P w=.ok sz w:=f.run w;cases p with
 |none=>simp[ez,cR f.gN,cR c,h,hx,g,aS]
 |some a=>simp[ez,cR f.gN,cR c,h,hx,g,aS,storeCells]
theorem bZ.drew{aD:Nat->Prop}{w1 w':dg}{aJ:Bd}{H':Heap}(a:w1.heap=w.heap)(b:w1.os=w.os/\w1.output=w.output)(h:bZ P ah aa w1 β H aD w' aJ H'):bZ P ah aa w β H aD w' aJ H':=
 ⟨h.bX,h.fresh,⟨by rw[<-a];exact h.ext.size,fun k hk=>by rw[<-a];exact h.ext.same k hk,h.ext.io.1.trans b.1,h.ext.io.2.trans b.2⟩,h.step,h.rel,h.fG,h.loop⟩
theorem Kb(z:Array c9)(n:Nat):(e6 z n).size=n*z.size:=by simp[e6]
theorem wy{ai:Nat}:∀{b:List AV}{a:List (List c9)},Row P w aa β H ai b a->∀c∈a.flatten,c.oneCell'=true
 |[],a,h=>by rw[iQ]at h;subst h;simp
 |v::b,a,h=>by
  rw[qM]at h;obtain⟨c,cs,rfl,d,_,e⟩:=h;intro x hx;simp only[List.flatten_cons,i8]at hx;exact hx.elim (zu d x) (wy e x)
theorem Row.mono{w':dg}{aD:Nat->Prop}{aJ:Bd}{H':Heap}(hI:∀k,aa k->aD k)(hs:∀k,aa k->w'.heap[k]?=w.heap[k]?)(aI:cm β H aJ H'){ai:Nat}{a:List AV}{b:List (List c9)}(c:aR (aH H) a)
 (h:Row P w aa β H ai a b):Row P w' aD aJ H' ai a b:=bL.mono hI hs aI _ _ _ c h
theorem yz{c:Call}{s x:c6}(e:o.op= .call c)(hc:c.callee= .builtin .append)(b:c.args.toList=[s,x]){a:c6->c9}{w w':dg}{v:c9}
 (h:(ez c.argTypes o.type #[a s,a x]).run P w=.ok v w'):(da a o).run P w=.ok (.value v) w':=by
 have d:c.args=#[s,x]:=by apply b3;simpa using b
 simp only[da,e,resolve,hc,d];simp[invoke,builtin,h]
theorem X5{c:Call}{s x:c6}(e:o.op= .call c)(hc:c.callee= .builtin .copy)(b:c.args.toList=[s,x]){a:c6->c9}{w w':dg}{v:c9}
 (h:(e8 c.argTypes o.type #[a s,a x]).run P w=.ok v w'):(da a o).run P w=.ok (.value v) w':=by
 have d:c.args=#[s,x]:=by apply b3;simpa using b
 simp only[da,e,resolve,hc,d];simp[invoke,builtin,h]
end
section
variable{P:c8}{w:dg}{aa ah:Nat->Prop}{β:Bd}{H:Heap}
variable{o:Oper}{ρ:c6->AV}{base:Nat}
theorem yn{c:Call}{s x:c6}(C:o.op= .call c)(hc:c.callee= .builtin .append)(v:c.args.toList=[s,x]){T X e:c7}(G:c.argTypes=#[T,X]){i:eb}{j:c9}{sz:Nat}(t:qJ P T sz e i)(u:iy P X=true)
 (K:i.zero=some j)(L:j.cells.size=sz)(E:b7 P w aa β H ah){g:c6->c9}{p:Option Addr}{b f:Nat}{olds a:List AV}{ocss:List (List c9)}(hs:g s=.slice p b f)(uC:olds.length=b)(l:Row P w aa β H sz olds ocss)(D:aR (aH H) olds)
 (B:(ew sz b (.slice p b f)).run P w.drew=.ok ocss.flatten.toArray w.drew)
 (hx:ib H (ρ x)=some a)(J:aw P w aa β H (ρ x) (g x))(I:aC (aH H) (ρ x))(F:fk P sz a)(z:f<b+a.length)(A:b+a.length<=cM):
 ∃cap cells d M,(da g o).run P w=.ok (.value (.slice (some ⟨w.heap.size,0,none⟩) (b+a.length) cap)) {w.drew with heap:=w.heap.push (.cells cells e)}/\
  Row P w aa β H sz (olds++a) d/\aR (aH H) (olds++a)/\cells.toList=d.flatten++M/\cells.size=cap*sz/\(olds++a).length<=cap:=by
 obtain⟨d,h,n,q,r⟩:=v7 hx E J I F;have k:=r w.drew rfl a.length (kp _);have N:d.length=a.length:=(gh h).1;rw[i4 o_]at k;obtain⟨cap,y,m⟩:=XC t u K o.type (sLen:=b) (sCap:=f) (p:=p) (g x) q B k z A;rw[<-G,<-hs]at m;refine⟨cap,_,ocss++d,(e6 j.cells (cap-(b+a.length))).toList,yz C hc v m,lO.2 ⟨_,_,rfl,l,h⟩,ku D n,s_,?_,by simpa[uC]using y⟩;have e1:=(gh l).2;have e2:=(gh h).2;simp only[Array.size_append,h9,Kb,L,e1,e2,uC,<-lc];congr 1;omega
theorem ui{T:c7}:gk P T≠.frozen/\gk P T≠.exact:=by
 unfold gk;split<;>simp
theorem ET{T e:c7}(h:dW P T=e)(hk:gk P T=.bytes):e=Gl.u8:=by
 unfold gk at hk
 split at hk
 ·rename_i a;rw[<-h];exact a
 ·cases hk
theorem CQ{_o':Obj}{k:AK}{a:List AV}{b:List (List c9)}{r:List c9}{cells:Array c9}{e:c7}{cap sz:Nat}(j:b7 P w aa β H ah)(c:H[base]?=some .hole)
 (g:k≠.frozen)(i:¬di k a)(m:Row P w aa β H sz a b)(d:aR (aH H) a)(hc:cells.toList=b.flatten++r)(o:cells.size=cap*sz)(h:a.length<=cap)(f:k=.exact->cap=a.length)(p:k=.bytes->e=Gl.u8):
 bZ P ah aa w β H aa {w.drew with heap:=w.heap.push (.cells cells e)} (β.at base w.heap.size cap) (aW H ([]++newAt base [.arr k 0 sz a]))/\
 aw P {w.drew with heap:=w.heap.push (.cells cells e)} aa (β.at base w.heap.size cap) (aW H ([]++newAt base [.arr k 0 sz a])) (.sl base 0 sz 0 a.length) (.slice (some ⟨w.heap.size,0,none⟩) a.length cap)/\
 aC (aH (aW H ([]++newAt base [.arr k 0 sz a]))) (.sl base 0 sz 0 a.length):=by
 have l:b7 P w.drew aa β H ah:=b7.vQ (w:=w) (w':=w.drew) rfl j;have n:Row P w.drew aa β H sz a b:=Row.mono (w:=w) (w':=w.drew) (fun _ x=>x) (fun _ _=>rfl) (cm.refl _ _) d m;obtain⟨q1,q⟩:=yM (T:=e) (k:=k) l c g i n d hc o h f p;rw[l8];exact⟨bZ.drew (w1:=w.drew) rfl ⟨rfl,rfl⟩ q1,q,⟨_,hR (hQ.1 c).1,kp _⟩⟩
theorem Mv{b:Nat}{k k':AK}{aq ai:Nat}{i es':List AV}{al cap:Nat}(f:H[b]?=some (.arr k aq ai i)):cm β H (β.at b al cap) (H.set b (.arr k' (aq+1) ai es')):=by
 have j:b<H.length:=(hQ.1 f).1;have c:∀x,x≠b->(H.set b (.arr k' (aq+1) ai es'))[x]?=H[x]?:=fun x hx=>h3 (lq hx);have a:(H.set b (.arr k' (aq+1) ai es'))[b]?=some (.arr k' (aq+1) ai es'):=hR j;refine⟨?_,?_,?_,?_,?_⟩
 ·rintro x _ ⟨fz,t,h⟩
  by_cases hx:x=b
  ·subst hx;rw[a]at h;cases h
  ·rw[c x hx]at h;exact⟨⟨fz,t,h⟩,by simp[Bd.at,hx]⟩
 ·rintro x _ ⟨fz,t,h⟩
  by_cases hx:x=b
  ·subst hx;rw[a]at h;cases h
  ·rw[c x hx]at h;exact⟨⟨fz,t,h⟩,by simp[Bd.at,hx]⟩
 ·rintro x _ ⟨n,h,e⟩
  by_cases hx:x=b
  ·subst hx;rw[a]at h;cases h;exact e.elim
  ·rw[c x hx]at h;exact⟨⟨n,h,e⟩,by simp[Bd.at,hx]⟩
 ·intro x v z m g hi h;unfold eA at h
  by_cases hx:x=b
  ·subst hx;rw[a]at h;cases h;obtain⟨o,d,l⟩:=hi;simp only at d;rw[f]at d;cases d;simp only[Obj.has]at l;omega
  ·rw[c x hx]at h;exact⟨m,g,h,kp _,Iff.rfl,fun _=>by simp[Bd.at,hx]⟩
 ·rintro x _ ⟨L,h⟩
  by_cases hx:x=b
  ·subst hx;rw[a]at h;cases h
  ·rw[c x hx]at h;exact⟨⟨L,h⟩,by simp[Bd.at,hx]⟩
theorem Bd.Yf(β:Bd)(b:Nat):β.at b (β.al b) (β.cap b)=β:=by
 cases β with
 |mk al cap=>
  simp only[Bd.at,Bd.mk.injEq];constructor
  ·funext x;split
   ·rename_i h;rw[h]
   ·rfl
  ·funext x;split
   ·rename_i h;rw[h]
   ·rfl
theorem Cd{α:Type}(A M Z X:List α):(A++M++Z).take A.length++X++(A++M++Z).drop (A.length+M.length)=A++X++Z:=by
 rw[ih A M Z,List.take_left,<-ih,<-hS,List.drop_left]
theorem XV{c:Call}{s x:c6}(W:o.op= .call c)(hc:c.callee= .builtin .append)(V:c.args.toList=[s,x])(bP:c.argTypes.size=2){H0:Heap}{K:aU->Prop}
 (h:oc P (c.argTypes.getD 0 0) (c.argTypes.getD 1 0) H0 (ρ s) (ρ x) K):
 ∃e,K e/\bt P o ρ H0.length e/\(∀p∈e.ak,H0[p.1]?=some p.2)/\(∀p∈e.aG,p.1<H0.length/\p.2≠.hole):=by
 obtain⟨T,X,R⟩:∃T X,c.argTypes=#[T,X]:=by
  obtain⟨l,hl⟩:∃l,l=c.argTypes.toList:=⟨_,rfl⟩
  have ad:l.length=2:=by rw[hl];simpa using bP
  match l,ad with
  |[a,b],_=>exact⟨a,b,by apply b3;simp[<-hl]⟩
 have B:s∈o.op.operands/\x∈o.op.operands:=by
  have bC:c.args=#[s,x]:=by apply b3;simpa using V
  rw[W];simp[he,gg,hc,bC]
 have e1:c.argTypes.getD 0 0=T:=by rw[R];rfl
 have e2:c.argTypes.getD 1 0=X:=by rw[R];rfl
 rw[e1,e2]at h;unfold oc at h
 split at h
 case h_2=>exact h.elim
 rename_i sz g F hx;obtain⟨ae,a6,ag,h⟩:=h;obtain⟨e,i,F⟩:=kN F;obtain⟨z,a6⟩:=ls.1 a6;obtain⟨bY,bU,bc,z2,z3,z4⟩:=ph a6;rw[F.qA]at bc z4;rw[F.info]at bc;cases bc;have aQ:bU.cells.size=sz:=by
  obtain⟨_,i2,k1,k2⟩:=yo (v:=.p z) (w:=default) (aa:=fun _=>False) (β:=⟨id,id⟩) (H:=[]) z4 (by simp only[bp];exact z3 _ _);rw[F.info]at k1;cases k1;have:=F.size;simp at k2;omega
 have a8:∀{ak:List (Nat×Obj)},(∀p∈dH H0 (ρ x),p∈ak)->(∀p∈ak,H0[p.1]?=some p.2)->g=[]->(∀(H:Heap)(w:dg)(aa ah:Nat->Prop)(β:Bd)(v:c9),b7 P w aa β H ah->(∀p∈ak,H[p.1]?=some p.2)->aw P w aa β H (ρ s) v->∃p a b,v= .slice p a b/\a<=b)->
  bt P o ρ H0.length {v:=ρ s,ak}:=by
  intro ak bN ap bQ bL;subst bQ;refine bt.same fun H w aa ah β ao f j ak=>?_;obtain⟨p,a,b,u,bB⟩:=bL H w aa ah β _ f ak (j s B.1).1;obtain⟨E,C,ad,bx,bz⟩:=v7 (o8 hx (fun p u=>ak p (bN p u))) f (j x B.2).1 (j x B.2).2 ag;have bg:=bz w rfl 0 (kp _);simp only[List.take_zero,List.flatten_nil]at bg;have Q:=WB F ae o.type (p:=p) (sLen:=a) (sCap:=b) _ bx bg bB;rw[<-R,<-u]at Q;exact⟨_,yz W hc V Q,by rw[u];exact u▸(j s B.1).1,(j s B.1).2⟩
 have a7:∀l:List AV,l.isEmpty=true->l=[]:=fun l h=>by simpa using h
 split at h
 ·
  rename_i hs
  split at h
  ·rename_i G;refine⟨_,h,?_,nU,s_⟩;exact a8 (fun p u=>u) nU (a7 _ G) (fun H w aa ah β v _ _ A=>by rw[hs]at A;simp only[aw,aB]at A;exact⟨_,_,_,A,kp _⟩)
  ·rename_i G;obtain⟨bl,h⟩:=h;refine⟨_,h,?_,nU,s_⟩;intro H w aa ah β ao f j ak aA;have af:H[H0.length]?=some .hole:=by simpa using aA 0 s_
   have O:=(j s B.1).1;rw[hs]at O;simp only[aw,aB]at O;have bn:0<g.length:=j2.2 (by simpa using G);obtain⟨cap,cells,E,D,r1,r2,ab,aj,am,an⟩:=yn W hc V R F ae z2 aQ f O (olds:=[]) (ocss:=[]) rfl (iQ.2 rfl) (by simp[aR]) (by simp[ew])
    (o8 hx ak) (j x B.2).1 (j x B.2).2 ag o_ o_
   obtain⟨q1,Y,Z⟩:=CQ (base:=H0.length) (k:=gk P T) (e:=e) (_o':=.hole) f af ui.1 (fun q=>G (by simpa using q.2)) r2 ab aj am an (fun h=>(ui.2 h).elim) (ET F.qA);simp only[i7,la]at r1 q1 Y Z;exact⟨_,_,_,_,aa,r1,.inl rfl,q1,Y,Z⟩
 ·
  rename_i full d hs;obtain⟨bD,h⟩:=h
  have O:∀{H:Heap}{w:dg}{aa:Nat->Prop}{β:Bd}{v:c9},aw P w aa β H (ρ s) v->∃p c M,v= .slice p d.length c/\d.length<=c/\(full=true->c=d.length)/\Row P w aa β H sz (d.map .p) M/\
   (∀w':dg,w'.heap=w.heap->(ew sz d.length v).run P w'=.ok M.flatten.toArray w'):=by
   intro H w aa β v A;rw[hs]at A;simp only[aw,aB]at A;obtain⟨al,off,cap,ai,E,v1,v2,v3,v4,v5,sp,bM,rfl⟩:=A;rcases bM with rfl|rfl
   case inr=>
    obtain rfl:d=[]:=h4.1 o_;exact⟨_,_,[],rfl,s_,s_,iQ.2 rfl,fun w' _=>B5⟩
   have aG:Row P w aa β H ai (d.map .p) E:=mj.2 v1;have bs:Row P w aa β H sz (d.map .p) E:=by
    by_cases bm:d.map AV.p=[]
    ·rw[bm]at aG⊢;rw[iQ]at aG⊢;exact aG
    ·rw[<-tG aG bD bm];exact aG
   refine⟨_,_,E,rfl,v5,v4,bs,fun w' a5=>vq (by have:=(gh bs).2;simpa using this) (v3.same (by rw[a5]))⟩
  split at h
  ·rename_i G;refine⟨_,h,?_,nU,s_⟩;exact a8 (fun p u=>u) nU (a7 _ G) (fun H w aa ah β v _ _ A=>by obtain⟨p,c,_,C,ad,_⟩:=O A;exact⟨p,_,c,C,ad⟩)
  ·rename_i G;obtain⟨hf,bl,h⟩:=h;refine⟨_,h,?_,nU,s_⟩;intro H w aa ah β ao f j ak aA;have af:H[H0.length]?=some .hole:=by simpa using aA 0 s_
   have bn:0<g.length:=j2.2 (by simpa using G);obtain⟨p,cp,M,s1,s2,bS,bT,bw⟩:=O (j s B.1).1;rw[s1]at bw;obtain⟨cap,cells,E,D,r1,r2,ab,aj,am,an⟩:=yn W hc V R F ae z2 aQ f s1 (olds:=d.map .p) s_ bT (jw _ _) (bw w.drew rfl)
    (o8 hx ak) (j x B.2).1 (j x B.2).2 ag (by have:=bS hf;omega) o_
   obtain⟨q1,Y,Z⟩:=CQ (base:=H0.length) (k:=gk P T) (e:=e) (_o':=.hole) f af ui.1 (fun q=>G (by have:=q.2;simp at this;simp[this.2])) r2 ab aj am an (fun h=>(ui.2 h).elim) (ET F.qA);simp only[hS,kd]at Y Z;exact⟨_,_,_,_,aa,r1,.inl rfl,q1,Y,Z⟩
 ·
  rename_i b aq ai off len hs
  split at h
  case h_2=>exact h.elim
  rename_i k b0 bW d a3;obtain⟨rfl,rfl,rfl,hlen,h⟩:=h;have ap:∀p∈(b,Obj.arr k aq ai d)::dH H0 (ρ x),H0[p.1]?=some p.2:=by
   intro p u;rcases hW.1 u with rfl|u
   ·exact a3
   ·exact nU p u
  have O:∀{H:Heap}{w:dg}{aa ah:Nat->Prop}{β:Bd}{v:c9},b7 P w aa β H ah->H[b]?=some (.arr k aq ai d)->aw P w aa β H (ρ s) v->
   (di k d/\v=.slice none 0 0/\len=0)\/(¬di k d/\v=.slice (some ⟨β.al b,off*ai,none⟩) len (β.cap b-off)/\
   ∃cs T E D,w.heap[β.al b]?=some (.cells cs T (0,0))/\Row P w aa β H ai d E/\cs.toList=E.flatten++D/\
   cs.size=β.cap b*ai/\d.length<=β.cap b/\(k=.exact->β.cap b=d.length)/\cC aa β ah (k== .frozen) b/\(k=.bytes->T=Gl.u8)):=by
   intro H w aa ah β v f t A;rw[hs]at A;simp only[aw,bO,bV]at A;obtain⟨_,v2,v3⟩:=A.2 k d t
   by_cases q:di k d
   ·exact .inl ⟨q,v2 q,by have:=q.2;subst this;simp at hlen;omega⟩
   ·rcases f.cS b _ t with hold|⟨cs,N,E,D,k1,k2,k3,k4,k5,k6,k7,k8⟩
    ·exact(q hold).elim
    ·exact .inr ⟨q,v3 q,cs,N,E,D,k1,k2,k3,k4,k5,k6,k7,k8.2⟩
  have holds:∀{H:Heap}{w:dg}{aa:Nat->Prop}{β:Bd}{cs:Array c9}{N:c7}{E:List (List c9)}{D:List c9},w.heap[β.al b]?=some (.cells cs N (0,0))->Row P w aa β H ai d E->cs.toList=E.flatten++D->
   ∃M,Row P w aa β H ai ((d.drop off).take len) M/\∀(w':dg)(n c:Nat),w'.heap=w.heap->(ew ai len (.slice (some ⟨β.al b,off*ai,none⟩) n c)).run P w'=.ok M.flatten.toArray w':=by
   intro H w aa β cs N E D k1 k2 k3;obtain⟨a,m,z,g1,g2,g3,g4,g5⟩:=kx k2 off len hlen;refine⟨m,g2,fun w' n c a5=>vq (by have:=(gh g2).2;rw[this];congr 1;simp;omega) ?_⟩;have:=mc k1 (pre:=a.flatten) (xs:=m.flatten) (post:=z.flatten++D) (by rw[k3,g1];simp);rw[g3]at this;exact this.same (by rw[a5])
  split at h
  ·rename_i G;refine⟨_,h,?_,ap,s_⟩;refine a8 (fun p u=>h0 _ u) ap (a7 _ G) (fun H w aa ah β v f ak A=>?_);rcases O f (ak (b,_) s_) A with⟨_,C,_⟩|⟨q,C,cs,N,E,D,ad⟩
   ·exact⟨_,_,_,C,kp _⟩
   ·exact⟨_,_,_,C,o_⟩
  ·rename_i G;have bn:0<g.length:=j2.2 (by simpa using G);obtain⟨bl,h⟩:=h
   split at h
   ·exact h.elim
   ·
    split at h
    ·rename_i au;refine⟨_,h,?_,ap,by simpa using(hQ.1 a3).1⟩;intro H w aa ah β ao f j ak _;have t:H[b]?=some (.arr .exact aq ai d):=ak (b,_) s_;rcases O f t (j s B.1).1 with⟨q,_⟩|⟨q,C,cs,N,E,D,k1,k2,k3,k4,k5,k6,k7,k8⟩
     ·cases q.1
     obtain⟨J,U,a9,ba,bb⟩:=v7 (o8 hx (fun p u=>ak p (h0 _ u))) f (j x B.2).1 (j x B.2).2 ag;have aL:=bb w rfl g.length (kp _);rw[i4 (by have:=(gh U).1;omega)]at aL;have bj:=k6 rfl;obtain⟨a,m,ac,g1,g2,g3,g4,g5⟩:=kx k2 (off+len) g.length au;have av:=(gh U).2;have ar:m.flatten.length=g.length*ai:=by have:=(gh g2).2;rw[this];congr 1;simp;omega
     have aM:cs.toList=a.flatten++m.flatten++(ac.flatten++D):=by rw[k3,g1];simp
     have bi:a.flatten.length=off*ai+len*ai:=by rw[g3,lc]
     have bu:cs.size=a.flatten.length+m.flatten.length+(ac.flatten++D).length:=by
      have:=congrArg j4 aM;simp only[hS,b5]at this;rw[this,hS]
     have Q:=Ka F ae o.type (sLen:=len) (sCap:=β.cap b-off) _ ba k1 aL (wy U) o_ (by rw[av,bu,bi,ar];exact lb _ _);rw[<-R,<-C]at Q;have aS:cs.toList.take (off*ai+len*ai)++J.flatten++cs.toList.drop (off*ai+len*ai+J.flatten.length)=a.flatten++J.flatten++(ac.flatten++D):=by
      rw[aM,<-bi,av,<-ar];exact Cd _ _ _ _
     rw[aS]at Q;have aI:cm β H β (H.set b (.arr .exact aq ai (d.take (off+len)++g++d.drop (off+len+g.length)))):=pB t (.inr (.inl ⟨_,_,_,_,_,rfl,rfl,by simp;omega⟩));have az:¬aa (β.al b)/\¬ah (β.al b):=by
      unfold cC at k7;rw[if_neg s_]at k7;exact k7
     have a4:∀I,aa I->(w.setRow (β.al b) (a.flatten++J.flatten++(ac.flatten++D)).toArray).heap[I]?=w.heap[I]?:=fun I a0=>dp w _ I _ (fun aZ=>az.1 (aZ▸a0));have hrefs:aR (aH H) (d.take (off+len)++g++d.drop (off+len+g.length)):=by
      have bo:=cO.1 (f.refs b _ t);refine ku (ku ?_ a9) ?_
      ·rw[cO];exact fun v A=>bo v (hZ A)
      ·rw[cO];exact fun v A=>bo v (h6 A)
     have aN:=ml t (o:=.arr .exact aq ai (d.take (off+len)++g++d.drop (off+len+g.length))) (fun _ h=>h);have a1:(d.take (off+len)++g++d.drop (off+len+g.length)).length=d.length:=by simp;omega
     have aF:=qE f t q (o':=.arr .exact aq ai (d.take (off+len)++g++d.drop (off+len+g.length))) (fun S=>by cases S.1) (fun _ h=>h) k1 (new:=(a.flatten++J.flatten++(ac.flatten++D)).toArray) az aI
      (.inr ⟨_,N,a++J++ac,D,dz w _ _ _ N _ k1,by
       refine Row.mono (fun _ x=>x) a4 aI hrefs (lO.2 ⟨_,_,rfl,lO.2 ⟨_,_,rfl,g4,U⟩,g5⟩),s_,by
       rw[<-k4,bu];simp only[h9,hS,av,ar],by rw[a1];exact k5,fun _=>by rw[a1];exact bj,k7,(fun aO=>by cases aO),k8⟩) (aR.mono aN _ hrefs)
     refine⟨_,_,_,β,aa,yz W hc V Q,.inl rfl,aF,?_,?_⟩
     ·simp only[aw,bO,bV,aW,newAt,hV];refine⟨by simp[hM],fun I be hl=>?_⟩;unfold eA at hl;rw[hR (hQ.1 t).1]at hl;cases hl;exact⟨by rw[a1];omega,(fun S=>by cases S.1),fun _=>trivial⟩
     ·simp only[aC];exact⟨_,hR (hQ.1 t).1,kp _⟩
    ·rename_i au;refine⟨_,h,?_,ap,s_⟩;intro H w aa ah β ao f j ak aA;have af:H[H0.length]?=some .hole:=by simpa using aA 0 s_
     have t:H[b]?=some (.arr .exact aq ai d):=ak (b,_) s_;rcases O f t (j s B.1).1 with⟨q,_⟩|⟨q,C,cs,N,E,D,k1,k2,k3,k4,k5,k6,k7,k8⟩
     ·cases q.1
     have bj:=k6 rfl;obtain⟨M,aK,aT⟩:=holds k1 k2 k3;have bk:((d.drop off).take len).length=len:=by simp;omega
     obtain⟨cap,cells,bd,bv,r1,r2,ab,aj,am,an⟩:=yn W hc V R F ae z2 aQ f C (olds:=(d.drop off).take len) bk aK
      (by rw[cO];exact fun v A=>cO.1 (f.refs b _ t) v (h6 (hZ A))) (aT w.drew _ _ rfl)
      (o8 hx (fun p u=>ak p (h0 _ u))) (j x B.2).1 (j x B.2).2 ag o_ o_
     obtain⟨q1,Y,Z⟩:=CQ (base:=H0.length) (k:=gk P T) (e:=e) (_o':=.hole) f af ui.1 (fun q=>G (by have:=q.2;simp at this;simp[this.2])) r2 ab aj am an (fun h=>(ui.2 h).elim) (ET F.qA);rw[hS,bk]at Y Z;exact⟨_,_,_,_,aa,r1,.inl rfl,q1,Y,Z⟩
   ·
    rename_i bF bG;obtain⟨rfl,bH,h⟩:=h;have aE:k≠.frozen:=fun e=>bF e;have aO:k≠.exact:=fun e=>bG e;have bX:(k==AK.frozen)=false:=by simpa using aE
    refine⟨_,h,?_,ap,by simpa using(hQ.1 a3).1⟩;intro H w aa ah β ao f j ak _;have t:H[b]?=some (.arr k aq ai d):=ak (b,_) s_;have ax:b<H.length:=(hQ.1 t).1;have aP:(d.take len).length=len:=by simp;omega
    have br:aR (aH H) (d.take len):=by rw[cO];exact fun v A=>cO.1 (f.refs b _ t) v (hZ A)
    have a2:¬di k (d.take len++g):=fun S=>G (by have:=S.2;simp at this;simp[this.2]);have aN:=ml t (o:=.arr k (aq+1) ai (d.take len++g)) (fun v h=>by simp only[Obj.has]at h⊢;omega)
    have bf:∀(p:Option Addr)(aX:Nat)(M:List (List c9)),ao s= .slice p len aX->Row P w aa β H ai (d.take len) M->(ew ai len (.slice p len aX)).run P w.drew= .ok M.flatten.toArray w.drew->aX<len+g.length->
     ∃n aY w' aJ aD,(da ao o).run P w=.ok n w'/\(n=.value aY\/n=.skip/\aY=undef)/\
      bZ P ah aa w β H aD w' aJ (H.set b (.arr k (aq+1) ai (d.take len++g)))/\aw P w' aD aJ (H.set b (.arr k (aq+1) ai (d.take len++g))) (.sl b (aq+1) ai 0 (len+g.length)) aY/\
      aC (aH (H.set b (.arr k (aq+1) ai (d.take len++g)))) (.sl b (aq+1) ai 0 (len+g.length)):=by
     intro p aX M C bJ bI bE;obtain⟨cap,cells,bd,bv,r1,r2,ab,aj,am,an⟩:=yn W hc V R F ae z2 aQ f C (olds:=d.take len) aP bJ br bI
      (o8 hx (fun p u=>ak p (h0 _ u))) (j x B.2).1 (j x B.2).2 ag bE o_
     have aI:=Mv (β:=β) (k':=k) (es':=d.take len++g) (al:=w.heap.size) (cap:=cap) t;have aF:bZ P ah aa w β H aa {w.drew with heap:=w.heap.push (.cells cells e)} (β.at b w.heap.size cap) (H.set b (.arr k (aq+1) ai (d.take len++g))):=by
      refine bZ.set f ax (fun y bR=>by simp[Bd.at,bR]) (fun _ y=>y) (fun _ y=>.inl y) (fun k hk=>by have:=f.bX k hk;simp;omega) s_
       (fun k _ hk=>by simp[ck,lm hk]) (fun _=>.inl (by simp[Bd.at])) aI
       (.inr ⟨cells,e,bd,bv,by simp[Bd.at],Row.mono (fun _ y=>y) (fun k hk=>by have:=f.bX k hk;simp[ck,lm this]) aI ab r2,aj,by simp[Bd.at,am],by simpa[Bd.at]using an,(fun ay=>(aO ay).elim),by
        unfold cC;rw[if_neg (by simpa using aE)];simp only[Bd.at,if_true];exact⟨fun h=>kt _ (f.bX _ h),fun h=>kt _ (f.eX _ h)⟩,(fun ay=>(aE ay).elim),fun af=>F.qA▸bH af⟩)
       (aR.mono aN _ ab) (fun aK v C ad=>by rw[t]at C;cases C;simp only[Obj.has]at ad⊢;omega) (fun L bh=>by rw[t]at bh;cases bh)
     refine⟨_,_,_,_,aa,r1,.inl rfl,aF,?_,?_⟩
     ·simp only[aw,bO,bV];refine⟨by simp[hM],fun I be hl=>?_⟩;unfold eA at hl;rw[hR ax]at hl;cases hl;exact⟨by rw[hS,aP];omega,fun S=>(a2 S).elim,fun _=>by simp[Bd.at]⟩
     ·simp only[aC];exact⟨_,hR ax,kp _⟩
    simp only[aW,newAt,hV];rcases O f t (j s B.1).1 with⟨q,C,rfl⟩|⟨q,C,cs,N,E,D,k1,k2,k3,k4,k5,k6,k7,k8⟩
    ·exact bf none 0 [] C (by simp[iQ]) (by simp[ew]) o_
    ·simp only[lk,Nat.sub_zero]at C
     by_cases au:len+g.length<=β.cap b
     ·
      obtain⟨J,U,a9,ba,bb⟩:=v7 (o8 hx (fun p u=>ak p (h0 _ u))) f (j x B.2).1 (j x B.2).2 ag;have aL:=bb w rfl g.length (kp _);rw[i4 (by have:=(gh U).1;omega)]at aL;obtain⟨a,m,ac,g1,g2,g3,g4,g5⟩:=kx k2 0 len hlen;have bA:a=[]:=by have:=(gh g4).1;simpa using this
      subst bA;have av:=(gh U).2;have ar:m.flatten.length=len*ai:=by have:=(gh g2).2;rw[this];congr 1
      have aM:cs.toList=m.flatten++(ac.flatten++D):=by rw[k3,g1];simp
      have bK:=Nat.mul_le_mul_right ai au;rw[lc]at bK;have Q:=Ka F ae o.type (off:=0) (sLen:=len) (sCap:=β.cap b) _ ba k1 aL (wy U) au (by rw[av,k4];omega);rw[<-R,<-C]at Q;obtain⟨aV,bq⟩:∃r,r=cs.toList.drop (len*ai+J.flatten.length):=⟨_,rfl⟩
      have aS:cs.toList.take (0+len*ai)++J.flatten++cs.toList.drop (0+len*ai+J.flatten.length)=(m++J).flatten++aV:=by
       rw[la,<-bq];congr 1;rw[aM,<-ar];simp
      rw[aS]at Q;have az:¬aa (β.al b)/\¬ah (β.al b):=by
       unfold cC at k7;rw[if_neg (by simpa using aE)]at k7;exact k7
      have aI:cm β H β (H.set b (.arr k (aq+1) ai (d.take len++g))):=by
       have:=Mv (β:=β) (k':=k) (es':=d.take len++g) (al:=β.al b) (cap:=β.cap b) t
       rwa [Bd.Yf]at this
      have a4:∀I,aa I->(w.setRow (β.al b) ((m++J).flatten++aV).toArray).heap[I]?=w.heap[I]?:=fun I a0=>dp w _ I _ (fun aZ=>az.1 (aZ▸a0));have hrefs:aR (aH H) (d.take len++g):=ku br a9;have aF:=qE f t q (o':=.arr k (aq+1) ai (d.take len++g)) a2 (fun v h=>by simp only[Obj.has]at h⊢;omega) k1 (new:=((m++J).flatten++aV).toArray) az aI
       (.inr ⟨_,N,m++J,aV,dz w _ _ _ N _ k1,by
        refine Row.mono (fun _ x=>x) a4 aI hrefs (lO.2 ⟨_,_,rfl,?_,U⟩);simpa using g2,s_,by
        rw[<-k4];simp only[h9,hS,ip,av,ar,bq,List.length_drop,b5,k4];omega,by rw[hS,aP];exact au,(fun ay=>(aO ay).elim),k7,(fun h=>(aE h).elim),k8⟩) (aR.mono aN _ hrefs)
      refine⟨_,_,_,β,aa,yz W hc V Q,.inl rfl,aF,?_,?_⟩
      ·simp only[aw,bO,bV];refine⟨by simp[hM],fun I be hl=>?_⟩;unfold eA at hl;rw[hR ax]at hl;cases hl;exact⟨by rw[hS,aP];omega,fun S=>(a2 S).elim,fun _=>by simp⟩
      ·simp only[aC];exact⟨_,hR ax,kp _⟩
     ·obtain⟨M,aK,aT⟩:=holds k1 k2 k3;simp only[j5,lk]at aK aT;exact bf _ _ M C aK (aT w.drew _ _ rfl) o_
 ·exact h.elim
end
section
variable{P:c8}{w:dg}{aa ah:Nat->Prop}{β:Bd}{H:Heap}
variable{o:Oper}{ρ:c6->AV}{base:Nat}
def jx(bs:ByteArray):List Nat:=bs.data.toList.map (·.toNat)
theorem B9:∀{a b:List UInt8},a.map (·.toNat)=b.map (·.toNat)->a=b
 |[],[],_=>rfl
 |[],_::_,h=>by simp at h
 |_::_,[],h=>by simp at h
 |x::a,y::b,h=>by
  simp at h;rw[l3.1 h.1,B9 h.2]
theorem bytes_beq(a b:ByteArray):(a.toList==b.toList)=(jx a==jx b):=by
 rw[ge,ge];unfold jx
 by_cases h:a.data.toList=b.data.toList
 ·simp[h]
 ·have d:¬(a.data.toList.map (·.toNat)=b.data.toList.map (·.toNat)):=fun c=>h (B9 c)
  rw[beq_eq_false_iff_ne.2 h,beq_eq_false_iff_ne.2 d]
theorem JI:∀a b:List UInt8,hj a b=jM (a.map (·.toNat)) (b.map (·.toNat))
 |[],[]=>rfl
 |_::_,[]=>rfl
 |[],_::_=>rfl
 |x::a,y::b=>by
  simp only[hj,hU,jM,JI a b];congr 1
  ·congr 1
   by_cases h:x=y
   ·simp[h]
   ·have:¬x.toNat=y.toNat:=fun c=>h (l3.1 c);rw[beq_eq_false_iff_ne.2 h,beq_eq_false_iff_ne.2 this]
theorem aKK{c:dl}{T j:c7}{x y:c6}{a b:List Nat}{K:PV->Prop}(g:o.op= .binOp c T x y j)(hx:ρ x= .p (.str a))(q:ρ y= .p (.str b))
 (h:pV c a b K)(ak:List (Nat×Obj)):∃v,K v/\bt P o ρ base {v:=.p v,ak}:=by
 have key:∀v,K v->(∀(w:dg)(aa:Nat->Prop)(s t:ByteArray),a=jx s->b=jx t->∃r,(hp c s t).run P w=.ok r w/\aB P w aa v r)->∃v,K v/\bt P o ρ base {v:=.p v,ak}:=by
  intro v n m;refine⟨v,n,bt.same fun H w aa ah β z u i _=>?_⟩;have e:=(i x (by simp[g,he])).1;have f:=(i y (by simp[g,he])).1;rw[hx]at e;rw[q]at f;simp only[aw,OM]at e f;obtain⟨s,e1,e2⟩:=e;obtain⟨t,e3,e4⟩:=f;obtain⟨r,r1,r2⟩:=m w aa s t e2 e4;refine⟨r,?_,by simpa only[aw]using r2,by simp[aC]⟩;simp only[da,g,e1,e3];refine eJ ?_;have l:(eqGuard c T x y (.string s) (.string t)).run P w=.ok () w:=by
   unfold eqGuard
   split<;>simp
  have k:(binOp c T (.string s) (.string t)).run P w=.ok r w:=by
   cases c<;>first|(simp[pV]at h;done)|exact r1
  simp[l,k]
 have hl:∀s t:ByteArray,a=jx s->b=jx t->hj s.toList t.toList=jM a b/\(s.toList==t.toList)=(a==b):=by
  intro s t hs d;rw[bytes_beq,<-hs,<-d,JI,ge,ge];exact⟨by rw[hs,d];rfl,rfl⟩
 cases c<;>simp only[pV]at h
 case add=>
  refine key _ h.2 fun w aa s t hs d=>⟨.string (s++t),run_string_add_sum w s t ?_,?_⟩
  ·have e:a.length=s.size:=by rw[hs];simp[jx]
   have f:b.length=t.size:=by rw[d];simp[jx]
   omega
  ·rw[OM];exact⟨_,rfl,by rw[hs,d];simp[jx,ByteArray.data_append]⟩
 case eql|neq|lss|leq|gtr|geq=>
  refine key _ h fun w aa s t hs d=>?_;obtain⟨e1,e2⟩:=hl s t hs d;exact⟨_,by simp only[hp,e1,e2];rfl,by simp[aB]⟩
theorem Vv{T:c7}(h:rq P T=true):P.underlying T=some .bool:=by
 unfold rq at h
 split at h
 ·assumption
 ·simp at h
theorem JA{T:c7}{a b:c9}{r:Bool}{w:dg}(h:(hh T a b).run P w= .ok r w)(d:(∃x,a= .bool x)\/(∃x,a= .agg x)\/(∃p n c,a= .slice p n c)\/(∃m,a= .map m)\/a= .nilFunc\/(∃f x y,a= .func f x y)\/(∃p,a= .pointer p)\/a= .nilIface):
 (binOp .eql T a b).run P w=.ok (.bool r) w/\(binOp .neq T a b).run P w=.ok (.bool !r) w:=by
 rcases d with⟨x,rfl⟩|⟨x,rfl⟩|⟨p,n,c,rfl⟩|⟨m,rfl⟩|rfl|⟨f,x,y,rfl⟩|⟨p,rfl⟩|rfl
 all_goals (constructor<;>(unfold binOp;simp[h]))
def jU.isAgg:jU->Bool
 | .agg _=>true
 |_=>false
theorem Yj{T:c7}{t:jU}(hk:kindOf P T=t)(a:t≠.bad)(w:dg):(isAgg T).run P w=.ok t.isAgg w:=by
 unfold kindOf at hk;cases hu:P.underlying T with
 |none=>rw[hu]at hk;simp at hk;exact(a hk.symm).elim
 |some d=>
  rw[hu]at hk;simp only[isAgg,hD,cR hu,hB];cases d<;>simp only at hk<;>(split at hk<;>first|(subst hk;rfl)|exact(a hk.symm).elim)
theorem ru{F:c7}{v:PV}{pre c post:List c9}{cs:Array c9}(hk:kindOf P F=aL v)(b:aV P w aa v c)(e:cs.toList=pre++c++post):
 ∃x,(part F cs pre.length).run P w=.ok x w/\aB P w aa v x:=by
 obtain⟨j,i,f,g⟩:=yo (v:=.p v) (β:=⟨id,id⟩) (H:=[]) (w:=w) (aa:=aa) hk (by simpa only[bp]using b);have d:=(n8 b).2;have a:=Yj hk d w;cases hs:aL v with
 |bad=>exact(d hs).elim
 |leaf=>
  rw[hs]at a;obtain⟨x,rfl,hx⟩:=(tH hs c).1 b;refine⟨x,?_,hx⟩;have:cs[pre.length]?=some x:=by rw[<-b4,e];simp
  simp[part,a,this,jU.isAgg]
 |agg u=>
  rw[hs]at a;refine⟨.agg c.toArray,?_,(wA hs c).1 b⟩;have h:(sizeOf F).run P w=.ok c.length w:=by simp[sizeOf,typeInfo,f,g]
  have:cs.extract pre.length (pre.length+c.length)=c.toArray:=by
   apply b3;rw[Array.toList_extract,e];simp[List.extract_eq_take_drop]
  simp[part,a,h,this,jU.isAgg]
theorem wz{n:Nat}{b:List Nat}{v:PV}{vs:List PV}{a:List (List c9)}(h:bg P w aa (n::b) (v::vs) a):∃c cs,a=c::cs/\aV P w aa v c/\c.length=n/\bg P w aa b vs cs:=by
 simpa only[bg]using h
theorem JG{eqF:c7->PV->PV->Option Bool}{d:Nat}(A:∀F a b r,eqF F a b=some r->kindOf P F=aL a->kindOf P F=aL b->∀x y,aB P w aa a x->aB P w aa b y->(hg d F x y).run P w= .ok r w){X Y:Array c9}:
 ∀(fs:List ee)(l:List Nat)(h j:List PV)(r:Bool)(pre k:List c9)(m o:List (List c9)),iB P eqF (fs.map (·.type)) h j=some r->fs.all (fun f=>f.name != "_")=true->
 (∀(i:Nat)(f:ee),fs[i]?=some f->f.offset=pre.length+(l.take i).sum)->bg P w aa l h m->bg P w aa l j o->pre.length=k.length->
 X.toList=pre++m.flatten->Y.toList=k++o.flatten->(hm d X Y fs).run P w=.ok r w
 |[],l,h,j,r,pre,k,m,o,e,_,_,_,_,_,_,_=>by
  cases h<;>cases j<;>simp[iB]at e;subst e;simp[hm]
 |f::fs,l,h,j,r,pre,k,m,o,e,p,u,hx,K,z,s,hY=>by
  cases h with
  |nil=>simp[iB]at e
  |cons a h=>
   cases j with
   |nil=>simp[iB]at e
   |cons b j=>
    cases l with
    |nil=>simp[bg]at hx
    |cons n l=>
     simp only[hU,iB]at e
     split at e
     case isFalse=>simp at e
     rename_i hk
     split at e
     case h_2=>simp at e
     rename_i r1 r2 D E;simp at e;subst e;obtain⟨c,cs,rfl,hc,t,J⟩:=wz hx;obtain⟨c',q,rfl,G,H,L⟩:=wz K;simp only[List.all_cons,cy,bne_iff_ne]at p;have v:f.offset=pre.length:=by simpa using u 0 f s_
     obtain⟨x,B,N⟩:=ru hk.1 hc (pre:=pre) (post:=cs.flatten) (cs:=X) (by rw[s];simp);obtain⟨y,C,O⟩:=ru hk.2 G (pre:=k) (post:=q.flatten) (cs:=Y) (by rw[hY];simp);have e1:=A _ _ _ _ D hk.1 hk.2 x y N O;rw[<-v]at B;rw[<-z,<-v]at C;have M:=JG A fs l h j r2 (pre++c) (k++c') cs q E p.2 (by
      intro i g I;have:=u (i+1) g (by simpa using I);rw[this,j7,kh,hS,t];omega) J L (by simp[z,t,H]) (by rw[s];simp) (by rw[hY];simp)
     simp only[hm,p.1,ne_eq,not_false_eq_true,if_true,hD,B,C,e1,hB];cases r1 with
     |false=>simp
     |true=>simpa using M
theorem Hq{eqF:c7->PV->PV->Option Bool}{d:Nat}{e:c7}(t:∀a b r,eqF e a b=some r->∀x y,aB P w aa a x->aB P w aa b y->(hg d e x y).run P w= .ok r w){X Y:Array c9}:
 ∀(n k:Nat)(g h:List PV)(r:Bool)(pre i:List c9)(j l:List (List c9)),iB P eqF (hT n e) g h=some r->
 bg P w aa (hT n (P.cellsOf e)) g j->bg P w aa (hT n (P.cellsOf e)) h l->pre.length=k*P.cellsOf e->i.length=k*P.cellsOf e->
 X.toList=pre++j.flatten->Y.toList=i++l.flatten->(ho d e (P.cellsOf e) X Y (List.range' k n)).run P w=.ok r w
 |0,k,g,h,r,pre,i,j,l,f,_,_,_,_,_,_=>by
  cases g<;>cases h<;>simp[iB]at f;subst f;simp[ho]
 |n+1,k,g,h,r,pre,i,j,l,f,hx,s,p,q,o,hY=>by
  cases g with
  |nil=>simp[js,iB]at f
  |cons a g=>
   cases h with
   |nil=>simp[js,iB]at f
   |cons b h=>
    rw[js]at f hx s;simp only[iB]at f
    split at f
    case isFalse=>simp at f
    rename_i hk
    split at f
    case h_2=>simp at f
    rename_i r1 r2 z A;simp at f;subst f;obtain⟨c,cs,rfl,hc,C,E⟩:=wz hx;obtain⟨c',m,rfl,B,D,F⟩:=wz s;obtain⟨x,u,H⟩:=ru hk.1 hc (pre:=pre) (post:=cs.flatten) (cs:=X) (by rw[o];simp);obtain⟨y,v,I⟩:=ru hk.2 B (pre:=i) (post:=m.flatten) (cs:=Y) (by rw[hY];simp);have e1:=t _ _ _ z x y H I;rw[p]at u;rw[q]at v;have G:=Hq t n (k+1) g h r2 (pre++c) (i++c') cs m A E F (by rw[hS,p,C,ll]) (by rw[hS,q,D,ll]) (by rw[o];simp) (by rw[hY];simp);rw[List.range'_succ];simp only[ho,hD,u,v,e1,hB];cases r1 with
    |false=>simp
    |true=>simpa using G
theorem zf:∀(n:Nat)(T:c7)(v v':PV)(r:Bool),fy P n T v v'=some r->∀x y,aB P w aa v x->aB P w aa v' y->∀d,n<=d->(hg d T x y).run P w=.ok r w
 |0,_,_,_,_,h,_,_,_,_,_,_=>by simp[fy]at h
 |n+1,T,v,v',r,h,x,y,hx,g,d,L=>by
  obtain⟨d,rfl⟩:∃e,d=e+1:=⟨d-1,o_⟩
  unfold fy at h
  split at h
  ·rename_i a b c;simp at h;subst h;simp only[aB]at hx g;subst hx;subst g;simp[hg,cR c]
  ·rename_i k0 k a M b c
   split at h
   case isFalse=>simp at h
   rename_i hk;subst hk;simp at h;subst h;simp only[aB]at hx g;subst hx;subst g;exact run_equalIn_int w d T k k0 a b c
  ·rename_i a b c;simp at h;subst h;simp only[aB]at hx g;obtain⟨s,rfl,hs⟩:=hx;obtain⟨t,rfl,H⟩:=g;rw[run_equalIn_string w d T s t c,bytes_beq,hs,H];rfl
  ·rename_i fs u A u' B c
   split at h
   case isFalse=>simp at h
   rename_i hc;obtain⟨hk,rfl,G,E⟩:=hc;simp only[aB]at hx g;obtain⟨l,j,k1,k2,rfl⟩:=hx;obtain⟨D,o,k3,k4,rfl⟩:=g;rw[k1]at k3;cases k3;obtain⟨K,D,s1,s2,q,z,N,I⟩:=vw (P:=P) (T:=T) (u:=u') (n:=fs.size) (by unfold fU;rw[hk,c]);rw[c]at s1;cases s1;rw[k1]at z;cases z;have C:P.fieldsOf T=fs:=by simp[Program.fieldsOf,c]
   rw[run_equalIn_struct w d T _ _ (by rw[C];exact c) G,C];refine JG (eqF:=fy P n) (fun F a b r p _ _ x y hx g=>zf n F a b r p x y hx g d o_) fs.toList l A B r [] [] j o h E ?_ k2 k4 rfl s_ s_;intro i f hf;have hi:i<fs.size:=by
    have:=(hQ.1 hf).1;simpa using this
   obtain⟨J,g1,g2,_⟩:=I i hi;rw[b4,g1]at hf;cases hf;simpa using g2
  ·rename_i m e u A u' B c
   split at h
   case isFalse=>simp at h
   rename_i hc;obtain⟨hk,rfl,hi⟩:=hc;simp only[aB]at hx g;obtain⟨l,j,k1,k2,rfl⟩:=hx;obtain⟨D,o,k3,k4,rfl⟩:=g;rw[k1]at k3;cases k3;obtain⟨e',s1,s2,q,z⟩:=tJ (P:=P) (T:=T) (u:=u') (n:=m) (by unfold iA;rw[hk,c]);rw[c]at s1;cases s1;rw[k1]at q;cases q;obtain⟨i,hi⟩:=ls.1 hi;rw[run_equalIn_array w d _ _ c hi,List.range_eq_range'];exact Hq (eqF:=fy P n) (fun a b r p x y hx g=>zf n e a b r p x y hx g d o_) m 0 A B r [] [] j o h k2 k4 s_ s_ s_ s_
  ·simp at h
end
section
variable{P:c8}{w:dg}{aa ah:Nat->Prop}{β:Bd}{H:Heap}
variable{o:Oper}{ρ:c6->AV}{base:Nat}
theorem D8{d:dl}{T B:c7}{x y:c6}{r:Bool}{K:PV->Prop}{l:List (Nat×Obj)}(k:o.op= .binOp d T x y B)
 (C:d=.eql/\K (.bool r)\/d=.neq/\K (.bool !r))
 (G:∀(H:Heap)(w:dg)(aa ah:Nat->Prop)(β:Bd)(a b:c9),b7 P w aa β H ah->(∀p∈l,H[p.1]?=some p.2)->aw P w aa β H (ρ x) a->aw P w aa β H (ρ y) b->(hh T a b).run P w=.ok r w/\
  ((∃x,a=.bool x)\/(∃x,a=.agg x)\/(∃p n c,a=.slice p n c)\/(∃m,a=.map m)\/a=.nilFunc\/(∃f x y,a=.func f x y)\/(∃p,a=.pointer p)\/(a=.nilIface/\mI y=true))/\(∀u v,a=.agg u->b=.agg v->P.eqGuardType P.depth T=false)):
 ∃v,K v/\bt P o ρ base {v:=.p v,ak:=l}:=by
 have key:∀v,K v->(∀(w:dg)(a b:c9),(hh T a b).run P w= .ok r w->((∃x,a= .bool x)\/(∃x,a= .agg x)\/(∃p n c,a= .slice p n c)\/(∃m,a= .map m)\/a= .nilFunc\/(∃f x y,a= .func f x y)\/(∃p,a= .pointer p)\/a= .nilIface)->
  ∃q,v=.bool q/\(binOp d T a b).run P w=.ok (.bool q) w)->∃v,K v/\bt P o ρ base {v:=.p v,ak:=l}:=by
  intro v I hq;refine⟨v,I,bt.same fun H w aa ah β s F t ak=>?_⟩;obtain⟨r1,r2,z⟩:=G H w aa ah β _ _ F ak (t x (by simp[k,he])).1 (t y (by simp[k,he])).1;obtain⟨q,rfl,E⟩:=hq w _ _ r1 (by rcases r2 with h|h|h|h|h|h|h|h<;>simp[h]);refine⟨.bool q,?_,by simp[aw,aB],by simp[aC]⟩;simp only[da,k];refine eJ ?_;have D:(eqGuard d T x y (s x) (s y)).run P w=.ok () w:=by
   rcases r2 with⟨p,e⟩|⟨p,e⟩|⟨p,n,c,e⟩|⟨m,e⟩|e|⟨f,J,L,e⟩|⟨p,e⟩|⟨e,hc⟩
   all_goals rw[e]at z⊢
   case inr.inl=>
    cases hy:s y with
    |agg A=>
     exact run_eqGuard_agg w d T x y p A (z p A rfl hy)
    |_=>cases d<;>rfl
   case inr.inr.inr.inr.inr.inr.inr=>
    cases y<;>simp[mI]at hc;unfold eqGuard;cases d<;>simp<;>(split<;>simp_all)
   all_goals (cases d<;>rfl)
  simp[D,E]
 rcases C with⟨rfl,j⟩|⟨rfl,j⟩
 ·exact key _ j fun w a b g i=>⟨_,rfl,(JA g i).1⟩
 ·exact key _ j fun w a b g i=>⟨_,rfl,(JA g i).2⟩
theorem za(T:c7)(a b:c9):∃d,9<=d+1/\hh T a b=hg (d+1) T a b:=⟨9999,o_,rfl⟩
theorem KM{T:c7}{c:Bool}{b:AV}{k:uU}(h:dF P T c b=some k):
 (k=.ptr/\b=.p .dc/\∃e,P.underlying T=some (.pointer e))\/(k=.slice/\b=.p .aK/\∃e,P.underlying T=some (.slice e))\/
 (k=.map/\b=.p .fM/\∃e f,P.underlying T=some (.map e f))\/(k=.func/\b=.p .iE/\∃e f g,P.underlying T=some (.func e f g))\/(k=.iface/\b=.p .gl/\c=true/\∃m,P.underlying T=some (.interface m)):=by
 unfold dF at h
 split at h<;>first
  |(split at h
    ·rename_i a;simp at h;subst h;simp[a]
    ·simp at h)
  |simp at h
theorem aKr{T:c7}{c:Bool}{H0:Heap}{a b:AV}{r:Bool}{k:uU}(hk:dF P T c b=some k)(h:cZ H0 k a=some r){l s:c9}(ak:∀p∈dH H0 a,H[p.1]?=some p.2)(i:aw P w aa β H a l)(C:aw P w aa β H b s):
 (hh T l s).run P w=.ok r w/\((∃x,l=.bool x)\/(∃x,l=.agg x)\/(∃p n c,l=.slice p n c)\/(∃m,l=.map m)\/l=.nilFunc\/(∃f x y,l=.func f x y)\/(∃p,l=.pointer p)\/(l=.nilIface/\c=true))/\(∀u v,l=.agg u->s=.agg v->P.eqGuardType P.depth T=false):=by
 obtain⟨d,_,I⟩:=za T l s;rw[I];rcases KM hk with⟨rfl,rfl,e,j⟩|⟨rfl,rfl,e,j⟩|⟨rfl,rfl,e,f,j⟩|⟨rfl,rfl,e,f,g,j⟩|⟨rfl,rfl,G,m,j⟩
 all_goals simp only[aw,aB]at C
 all_goals subst C
 ·cases a<;>simp only[cZ]at h
  case p v=>
   cases v<;>simp only at h<;>simp at h
   all_goals subst h
   all_goals simp only[aw,aB]at i
   ·subst i;simp[hg,cR j]
   ·obtain⟨_,_,_,_,_,_,rfl⟩:=i;simp[hg,cR j]
  case ptr B path=>
   simp only[aw,bO,bV]at i;obtain⟨_,_,_,_,rfl,_⟩:=i
   split at h
   ·simp at h;subst h;simp[hg,cR j]
   ·simp at h
  all_goals simp at h
 ·cases a<;>simp only[cZ]at h
  case p v=>
   cases v
   case seq o=>
    cases o with
    |nil=>simp at h
    |cons e o=>
     simp at h;subst h;simp only[aw,aB]at i;rcases i with⟨J,_⟩|⟨_,_,_,_,_,_,_,_,_,_,_,rfl⟩
     ·cases J
     ·simp[hg,cR j]
   all_goals simp only at h
   all_goals simp at h
   all_goals subst h
   all_goals simp only[aw,aB]at i
   ·subst i;simp[hg,cR j]
   ·obtain⟨_,_,_,_,_,_,_,_,_,_,_,_,rfl⟩:=i;simp[hg,cR j]
  case sl B aq ai off len=>
   simp only[aw,bO,bV]at i;simp only[dH]at ak
   split at h
   case h_2=>simp at h
   rename_i A M L o t;rw[t]at ak;have z:=ak _ (ix.2 rfl)
   split at h
   case isFalse=>simp at h
   rename_i hc;obtain⟨rfl,rfl⟩:=hc;obtain⟨_,E,F⟩:=i.2 A o z
   by_cases q:di A o
   ·rw[E q];have:r=true:=by simp at h;rw[<-h];simp[q.1,q.2]
    subst this;simp[hg,cR j]
   ·rw[F q];have:r=false:=by
     simp at h;rw[<-h];unfold di at q
     by_cases D:A.gr=true
     ·have K:o≠[]:=fun h=>q ⟨D,h⟩;simp[K]
     ·simp[D]
    subst this;simp[hg,cR j]
  all_goals simp at h
 ·cases a<;>simp only[cZ]at h
  case p v=>
   cases v<;>simp only at h<;>simp at h
   all_goals subst h
   all_goals simp only[aw,aB]at i
   ·subst i;simp[hg,cR j]
   ·obtain⟨_,_,_,_,_,_,rfl⟩:=i;simp[hg,cR j]
  case map B=>
   simp only[aw,bO,bV]at i;simp only[dH]at ak
   split at h
   case h_2=>simp at h
   rename_i fz o t;rw[t]at ak;have z:=ak _ (ix.2 rfl);rw[i.2.1 ⟨_,z,trivial⟩];simp at h;subst h;simp[hg,cR j]
  all_goals simp at h
 ·cases a<;>simp only[cZ]at h
  case p v=>
   cases v<;>simp only at h<;>simp at h
   all_goals subst h
   all_goals simp only[aw,aB]at i
   ·obtain⟨_,_,_,_,rfl⟩:=i;simp[hg,cR j]
   ·subst i;simp[hg,cR j]
  case func f first iR=>
   simp only[aw]at i;obtain⟨_,_,_,_,rfl⟩:=i;simp at h;subst h;simp[hg,cR j]
  all_goals simp at h
 ·cases a<;>simp only[cZ]at h
  case p v=>
   cases v<;>simp only at h<;>simp at h
   all_goals subst h
   all_goals simp only[aw,aB]at i
   subst i;simp[hg,cR j,G]
  all_goals simp at h
theorem aKB{i:dl}{T s:c7}{x y:c6}{K:PV->Prop}{H0:Heap}(j:o.op= .binOp i T x y s)(h:kY P i T (mI y) H0 (ρ x) (ρ y) K):
 ∃v,K v/\bt P o ρ base {v:=.p v,ak:=dH H0 (ρ x)}:=by
 unfold kY at h
 split at h
 ·rename_i k a C b hx g;exact aKF j hx g h.1 h.2 _
 ·rename_i a b hx g;exact aKK j hx g h _
 ·rename_i a b hx g;obtain⟨z,h⟩:=h;have m:=Vv z;refine D8 (r:=a==b) j ?_ ?_
  ·split at h
   ·exact .inl ⟨rfl,h⟩
   ·exact .inr ⟨rfl,h⟩
   ·exact h.elim
  ·intro H w aa ah β n q e ak f c;rw[hx]at f;rw[g]at c;simp only[aw,aB]at f c;subst f;subst c;obtain⟨d,_,l⟩:=za T (.bool a) (.bool b);rw[l];exact⟨by simp[hg,cR m],.inl ⟨_,rfl⟩,fun u v m _=>by cases m⟩
 ·rename_i u fs u' t hx g;obtain⟨B,h⟩:=h;obtain⟨r,e,c⟩:∃r,fy P 9 T (.st u fs) (.st u' t)=some r/\(i=.eql/\K (.bool r)\/i=.neq/\K (.bool !r)):=by
   split at h
   ·rename_i r e;exact⟨r,e,.inl ⟨rfl,h⟩⟩
   ·rename_i r e;exact⟨r,e,.inr ⟨rfl,h⟩⟩
   ·exact h.elim
  refine D8 (r:=r) j c ?_;intro H w aa ah β n q _ ak f c;rw[hx]at f;rw[g]at c;simp only[aw]at f c;refine⟨?_,?_,fun u v _ _=>by simpa[nG]using B⟩
  ·obtain⟨d,A,l⟩:=za T n q;rw[l];exact zf 9 T _ _ r e _ _ f c (d+1) A
  ·simp only[aB]at f;obtain⟨_,_,_,_,rfl⟩:=f;exact .inr (.inl ⟨_,rfl⟩)
 ·rename_i hx g
  split at h
  case h_2=>exact h.elim
  rename_i k hk;obtain⟨r,e,c⟩:∃r,cZ H0 k (ρ x)=some r/\(i=.eql/\K (.bool r)\/i=.neq/\K (.bool !r)):=by
   split at h
   ·rename_i r e;exact⟨r,e,.inl ⟨rfl,h⟩⟩
   ·rename_i r e;exact⟨r,e,.inr ⟨rfl,h⟩⟩
   ·exact h.elim
  exact D8 (r:=r) j c fun H w aa ah β n q _ ak f c=>aKr hk e ak f c
end
section
variable{P:c8}{w:dg}{aa ah:Nat->Prop}{β:Bd}{H:Heap}
variable{o:Oper}{ρ:c6->AV}{base:Nat}
theorem om{c:c6->c9}:∀(l:List c6),(∀x∈l,aw P w aa β H (ρ x) (c x)/\aC (aH H) (ρ x))->br P w aa β H (l.map ρ) (l.map c)/\aR (aH H) (l.map ρ)
 |[],_=>by simp[br,aR]
 |x::l,h=>by
  have a:=h x s_;have b:=om l (fun y d=>h y (by simp[d]));simp only[hU,br,aR];exact⟨⟨_,_,rfl,a.1,b.1⟩,a.2,b.2⟩
theorem y0{H0:Heap}:∀(l:List AV){j:List PV}{ak aG:List (Nat×Obj)}{H:Heap}{aa:Nat->Prop}{vs:List c9},fT H0 l=some (j,ak,aG)->b7 P w aa β H ah->br P w aa β H l vs->aR (aH H) l->
 (∀p∈ak,∃f fz t,p.2=.box fz t/\H[p.1]?=some (.box f t))->∃aD,bZ P ah aa w β H aD w β (aW H aG)/\bm P w aD j vs/\∀p∈aG,p.1<H0.length/\p.2≠.hole
 |[],j,ak,aG,H,aa,vs,h,i,e,_,_=>by
  simp[fT]at h;obtain⟨rfl,rfl,rfl⟩:=h;simp only[br]at e;exact⟨aa,bZ.refl i,by simpa[bm]using e,s_⟩
 |a::l,j,ak,aG,H,aa,vs,h,i,e,d,m=>by
  simp only[br]at e;obtain⟨y,x,rfl,n,u⟩:=e;simp only[aR]at d;cases a with
  |p v=>
   simp only[fT]at h
   split at h
   case h_2=>simp at h
   rename_i G B E k;simp at h;obtain⟨rfl,rfl,rfl⟩:=h;obtain⟨aD,q1,o,q⟩:=y0 l k i u d.2 m;simp only[aw]at n;exact⟨aD,q1,by simp only[bm];exact⟨y,x,rfl,aB.mono q1.bX (fun _ _=>rfl) _ _ n,o⟩,q⟩
  |ptr b path=>
   cases path with
   |cons _ _=>simp[fT]at h
   |nil=>
    simp only[fT]at h
    split at h
    case h_2=>simp at h
    rename_i fz t G B E C k;simp at h;obtain⟨rfl,rfl,rfl⟩:=h;obtain⟨f,J,K,e1,e2⟩:=m (b,.box fz (.p t)) s_;cases e1;have D:lE H (.ptr b [])=some (.cA t,H.set b (.box true (.p t))):=by
     simp only at e2;simp[lE,e2,lH]
    obtain⟨I,g,F⟩:=Lz D i n d.1;have A:b<H.length:=(hQ.1 e2).1;obtain⟨z,q1,o,q⟩:=y0 l k g.rel (br.mono g.bX (fun _ _=>rfl) g.step _ _ d.2 u) (aR.mono g.fG _ d.2) (by
     intro p c;obtain⟨f2,r,t2,g1,g2⟩:=m p (by simp[c])
     by_cases s:b=p.1
     ·rw[<-s]at g2⊢;simp only at e2;rw[e2]at g2;cases g2;exact⟨true,r,_,g1,by rw[hR A]⟩
     ·exact⟨f2,r,t2,g1,by rw[h3 s];exact g2⟩)
    refine⟨z,by simpa only[aW]using g.trans q1,?_,?_⟩
    ·simp only[bm];exact⟨y,x,rfl,aB.mono q1.bX (fun _ _=>rfl) _ _ F,o⟩
    ·intro p c;rcases hW.1 c with rfl|c
     ·exact⟨(hQ.1 C).1,s_⟩
     ·exact q p c
  |_=>simp[fT]at h
theorem Wv{f:db}{fi ca:Array c6}(E:o.op= .makeFunc (.func f) fi ca):
 (∀a b,eZ (fi.toList.map ρ)=some a->eZ (ca.toList.map ρ)=some b->bt P o ρ base {v:=.p (.func f a b)})/\
 bt P o ρ base {v:=.func f (fi.toList.map ρ) (ca.toList.map ρ)}/\
 (∀(H0:Heap) a b ak aG,fT H0 (fi.toList.map ρ)=some (a,[],[])->fT H0 (ca.toList.map ρ)=some (b,ak,aG)->bt P o ρ base {v:=.p (.func f a b),ak,aG}/\(∀p∈ak,H0[p.1]?=some p.2)/\(∀p∈aG,p.1<H0.length/\p.2≠.hole)):=by
 have g:∀x,x∈fi.toList\/x∈ca.toList->x∈o.op.operands:=by
  intro x hx;rw[E];simp only[he,Array.mem_append];simpa using hx
 have u:∀(c:c6->c9)(w:dg),(da c o).run P w=.ok (.value (.func (.func f) (fi.toList.map c).toArray (ca.toList.map c).toArray)) w:=by
  intro c w;simp only[da,E];refine eJ ?_;have j:(fi.toList.map c).toArray=fi.map c:=by apply b3;simp
  have k:(ca.toList.map c).toArray=ca.map c:=by apply b3;simp
  rw[j,k];simp[Instr.makeFunc]
 refine⟨?_,?_,?_⟩
 ·intro a b s m;refine bt.same fun H w aa ah β c z e _=>⟨_,u c w,?_,by simp[aC]⟩
  obtain⟨j,_⟩:=om fi.toList (fun x hx=>e x (g x (.inl hx)));obtain⟨k,_⟩:=om ca.toList (fun x hx=>e x (g x (.inr hx)));rw[mi s]at j;rw[mi m]at k;simp only[aw,aB];exact⟨_,_,j0.1 j,j0.1 k,rfl⟩
 ·refine bt.same fun H w aa ah β c z e _=>⟨_,u c w,?_,?_⟩
  ·simp only[aw];exact⟨_,_,(om fi.toList (fun x hx=>e x (g x (.inl hx)))).1,(om ca.toList (fun x hx=>e x (g x (.inr hx)))).1,rfl⟩
  ·simp only[aC];exact⟨(om fi.toList (fun x hx=>e x (g x (.inl hx)))).2,(om ca.toList (fun x hx=>e x (g x (.inr hx)))).2⟩
 ·intro H0 a b ak aG s m;have D:∀p∈ak,H0[p.1]?=some p.2/\∃fz t,p.2=.box fz t:=by
   have:∀(l:List AV)(b:List PV)(ak aG:List (Nat×Obj)),fT H0 l=some (b,ak,aG)->∀p∈ak,H0[p.1]?=some p.2/\∃fz t,p.2=.box fz t:=by
    intro l
    induction l with
    |nil=>intro b ak aG h;simp[fT]at h;obtain⟨rfl,rfl,rfl⟩:=h;simp
    |cons x l q=>
     intro b ak aG h;cases x with
     |p v=>
      simp only[fT]at h
      split at h
      case h_2=>simp at h
      rename_i B n A i;simp at h;obtain⟨rfl,rfl,rfl⟩:=h;exact q _ _ _ i
     |ptr I path=>
      cases path with
      |cons _ _=>simp[fT]at h
      |nil=>
       simp only[fT]at h
       split at h
       case h_2=>simp at h
       rename_i fz t B n A y i;simp at h;obtain⟨rfl,rfl,rfl⟩:=h;intro p d;rcases hW.1 d with rfl|d
       ·exact⟨y,_,_,rfl⟩
       ·exact q _ _ _ i p d
     |_=>simp[fT]at h
   exact this _ _ _ _ m
  have J:∀p∈aG,p.1<H0.length/\p.2≠.hole:=by
   have:∀(l:List AV)(b:List PV)(ak aG:List (Nat×Obj)),fT H0 l=some (b,ak,aG)->∀p∈aG,p.1<H0.length/\p.2≠.hole:=by
    intro l
    induction l with
    |nil=>intro b ak aG h;simp[fT]at h;obtain⟨rfl,rfl,rfl⟩:=h;simp
    |cons x l q=>
     intro b ak aG h;cases x with
     |p v=>
      simp only[fT]at h
      split at h
      case h_2=>simp at h
      rename_i B n A i;simp at h;obtain⟨rfl,rfl,rfl⟩:=h;exact q _ _ _ i
     |ptr I path=>
      cases path with
      |cons _ _=>simp[fT]at h
      |nil=>
       simp only[fT]at h
       split at h
       case h_2=>simp at h
       rename_i fz t B n A y i;simp at h;obtain⟨rfl,rfl,rfl⟩:=h;intro p d;rcases hW.1 d with rfl|d
       ·exact⟨(hQ.1 y).1,s_⟩
       ·exact q _ _ _ i p d
     |_=>simp[fT]at h
   exact this _ _ _ _ m
  refine⟨?_,fun p d=>(D p d).1,J⟩;intro H w aa ah β c z e n _;obtain⟨j,r1⟩:=om fi.toList (fun x hx=>e x (g x (.inl hx)));obtain⟨k,r2⟩:=om ca.toList (fun x hx=>e x (g x (.inr hx)));obtain⟨M,r,K,_⟩:=y0 _ s z j r1 s_;simp only[aW]at r;obtain⟨G,q1,L,_⟩:=y0 _ m r.rel (br.mono r.bX (fun _ _=>rfl) r.step _ _ r2 k) r2 (by
   intro p d;obtain⟨_,fz,t,F⟩:=D p d;have C:=n p d;rw[F]at C;exact⟨fz,fz,t,F,C⟩)
  simp only[newAt,hV];refine⟨_,_,w,β,G,u c w,.inl rfl,r.trans q1,?_,by simp[aC]⟩;simp only[aw,aB];exact⟨_,_,bm.mono q1.bX (fun _ _=>rfl) _ _ K,L,rfl⟩
theorem Cf{x:c6}(d:o.op=.nilCheck x)(h:(∃b p,ρ x=.ptr b p)\/(∃b v e i p,ρ x=.b8 b v e i p)\/∃t,ρ x=.p (.cA t)):bt P o ρ base {v:=ρ x}:=by
 refine bt.same fun H w aa ah β f l k ak=>?_;have c:=k x (by simp[d,he]);refine⟨f x,?_,c⟩;have j:∃a,f x=.pointer (some a):=by
  rcases h with⟨b,p,hx⟩|⟨b,v,e,i,p,hx⟩|⟨t,hx⟩
  ·have c:=c.1;rw[hx]at c;simp only[aw,bO,bV]at c;obtain⟨_,_,_,_,h,_⟩:=c;exact⟨_,h⟩
  ·have c:=c.1;rw[hx]at c;simp only[aw,bO,bV]at c;obtain⟨_,_,_,_,h,_⟩:=c;exact⟨_,h⟩
  ·have c:=c.1;rw[hx]at c;simp only[aw,aB]at c;obtain⟨_,_,_,_,_,_,h⟩:=c;exact⟨_,h⟩
 obtain⟨a,g⟩:=j;simp[da,d,g]
end
section
variable{P:c8}{w:dg}{aa ah:Nat->Prop}{β:Bd}{H:Heap}
variable{o:Oper}{ρ:c6->AV}{base:Nat}
open Go.MapKept
def kW:PV->Prop
 | .st _ _=>False
 |_=>True
theorem DW{T:c7}{key:PV}(h:kW key)(k:PV):qj P T key k=gU key k:=by
 cases key<;>first
  |exact h.elim
  |rfl
theorem VE{T:c7}{key:PV}(h:kW key)(a:List (PV×PV)):mu P T a key=gu P T a key:=by
 cases key<;>first
  |exact h.elim
  |rfl
theorem yF{T:c7}{key:PV}{b:c9}(h:fj P T key=true)(hl:kW key)(a:aB P w aa key b):∃d,P.underlying T=some d/\IsKey d b:=by
 unfold fj at h
 split at h
 ·split at h
  ·rename_i c;simp at h;subst h;simp only[aB]at a;subst a;exact⟨_,c,by simp[IsKey]⟩
  ·simp at h
 ·simp only[aB]at a;obtain⟨bs,rfl,_⟩:=a;exact⟨_,yy h,by simp[IsKey]⟩
 ·exact hl.elim
 ·simp at h
theorem Aa{T:c7}{d:eq}(j:P.underlying T=some d){key g:PV}{i v':c9}{r:Bool}(h:fj P T key=true)(hl:kW key)(c:gU key g=some r)(e:aB P w aa key i)(f:aB P w aa g v'):
 g9 d i v'=some r/\(r=true->i=v'):=by
 unfold fj at h
 split at h
 ·split at h
  ·rename_i k;simp at h;subst h;rw[j]at k;cases k;cases g<;>simp only[gU]at c<;>try (simp at c;done)
   split at c
   ·rename_i hk;subst hk;simp at c;subst c;simp only[aB]at e f;subst e;subst f;simp[g9]
   ·simp at c
  ·simp at h
 ·rename_i hs;have:=yy h;rw[j]at this;cases this;cases g<;>simp only[gU]at c<;>try (simp at c;done)
  simp at c;subst c;simp only[aB]at e f;obtain⟨a,rfl,e1⟩:=e;obtain⟨b,rfl,e2⟩:=f;subst e1;subst e2;have n:(j6 (fun x:UInt8=>x.toNat) a.data.toList=j6 (fun x:UInt8=>x.toNat) b.data.toList)↔a=b:=by
   constructor
   ·intro h;have:=B9 h;apply ByteArray.ext;apply b3;exact this
   ·intro h;rw[h]
  by_cases hc:a=b
  ·subst hc;simp[g9,hd]
  ·have l:¬(j6 (fun x:UInt8=>x.toNat) a.data.toList=j6 (fun x:UInt8=>x.toNat) b.data.toList):=fun h=>hc (n.1 h);have m:(a==b)=false:=by
    cases o:(a==b)with
    |false=>rfl
    |true=>exact(hc ((hd a b).1 o)).elim
   simp[g9,l,m]
 ·exact hl.elim
 ·simp at h
theorem Dk{T:c7}{d:eq}(o:P.underlying T=some d){key:PV}{g:c9}(hk:fj P T key=true)(m:kW key)(l:aB P w aa key g):∀(b:List (PV×PV))(a:List dk)(i:Nat)(r:Option PV),cF P w aa b a->gu P T b key=some r->
 (r=none/\gi d g a i=some none)\/∃v j e,r=some v/\gi d g a i=some (some (i+j,e.val))/\a[j]?=some e/\aB P w aa v e.val/\e.key=g/\
  (∀(x:PV)(k:c9),aB P w aa x k->cF P w aa (gS b key x) (a.modify j fun e=>{e with key:=g,val:=k}))
 |[],a,i,r,f,h=>by
  simp only[cF]at f;simp[gu]at h;subst f;subst h;exact .inl ⟨rfl,rfl⟩
 |(s,v')::b,a,i,r,f,h=>by
  simp only[cF]at f;obtain⟨e,rest,rfl,n,p,q⟩:=f;simp only[gu,DW m]at h
  split at h
  ·rename_i c;simp at h;subst h;obtain⟨g1,g2⟩:=Aa o hk m c l n;refine .inr ⟨v',0,e,rfl,by simp[gi,g1],rfl,p,(g2 rfl).symm,fun x k hx=>?_⟩;simp only[gS,c,if_true];simp only[cF];exact⟨_,rest,rfl,l,hx,q⟩
  ·rename_i c;obtain⟨g1,g2⟩:=Aa o hk m c l n;rcases Dk o hk m l b rest (i+1) r q h with⟨rfl,f1⟩|⟨v,j,e',rfl,f1,f2,f3,f4,f5⟩
   ·exact .inl ⟨rfl,by simp[gi,g1,f1]⟩
   ·refine .inr ⟨v,j+1,e',rfl,by simp[gi,g1,f1];omega,by simpa using f2,f3,f4,fun x k hx=>?_⟩;simp only[gS,c];rw[if_neg s_];simp only[cF];exact⟨e,_,by simp[List.modify_succ_cons],n,p,f5 x k hx⟩
  ·simp at h
theorem J7{X:Array c9}{v:c7->PV->PV->Option Bool}(e:Bool)(n:Nat):
 ∀(fs:List ee)(l:List Nat)(b:List PV)(r:Bool)(pre:List c9)(j:List (List c9)),iB P v (fs.map (·.type)) b b=some r->(∀f∈fs,f.name≠ "_" /\tS P f.type=true)->
 (∀(i:Nat)(f:ee),fs[i]?=some f->f.offset=pre.length+(l.take i).sum)->bg P w aa l b j->
 X.toList=pre++j.flatten->(forIn fs l0 (fun f _=>if f.name≠ "_" then(do
  let x<-part f.type X f.offset
  gt e (n+1) f.type x
  pure (ForInStep.yield l0))else pure (ForInStep.yield l0):ee->PUnit->Sem (ForInStep PUnit))).run P w=.ok l0 w
 |[],l,b,r,pre,j,_,_,_,_,_=>by simp
 |f::fs,l,b,r,pre,j,d,q,s,hx,p=>by
  cases b with
  |nil=>simp[iB]at d
  |cons a b=>
   cases l with
   |nil=>simp[bg]at hx
   |cons m l=>
    simp only[hU,iB]at d
    split at d
    case isFalse=>simp at d
    rename_i hk
    split at d
    case h_2=>simp at d
    rename_i r1 r2 F y;obtain⟨c,cs,rfl,hc,z,D⟩:=wz hx;obtain⟨B,o⟩:=q f s_;have C:f.offset=pre.length:=by simpa using s 0 f s_
    obtain⟨x,t,G⟩:=ru hk.1 hc (pre:=pre) (post:=cs.flatten) (cs:=X) (by rw[p];simp);rw[<-C]at t;have u:(gt e (n+1) f.type x).run P w=.ok () w:=by
     unfold tS at o;unfold gt
     split at o
     ·rename_i k h;simp[cR h]
     ·rename_i h;simp[cR h]
     ·rename_i h;simp[cR h]
     ·cases o
    have E:=J7 e n fs l b r2 (pre++c) cs y (fun f hf=>q f (by simp[hf])) (by
     intro i g A;have:=s (i+1) g (by simpa using A);rw[this,j7,kh,hS,z];omega) D (by rw[p];simp)
    rw[List.forIn_cons];simp only[B,ne_eq,not_false_eq_true,if_true,hD,t,u,hB,hE];exact E
theorem Va{T:c7}{cH:Array ee}{u:Nat}{fs:List PV}{g:c9}(b:P.underlying T=some (.struct cH))(j:cH.toList.all (fun f=>f.name != "_" &&tS P f.type)=true)(a:(fy P 9 T (.st u fs) (.st u fs)).isSome=true)(d:aB P w aa (.st u fs) g)(e:Bool):
 (gt e 10000 T g).run P w=.ok () w:=by
 obtain⟨r,a⟩:=ls.1 a;unfold fy at a;simp only[b]at a
 split at a
 case isFalse=>simp at a
 rename_i hc;obtain⟨hk,-,-,-⟩:=hc;simp only[aB]at d;obtain⟨l,c,k1,k2,rfl⟩:=d;obtain⟨o,p,s1,s2,q,h,s,k⟩:=vw (P:=P) (T:=T) (u:=u) (n:=cH.size) (by unfold fU;rw[hk,b]);rw[b]at s1;cases s1;rw[k1]at h;cases h;have key:=J7 (w:=w) (aa:=aa) (X:=c.flatten.toArray) e 9998 cH.toList l fs r [] c a (fun f hf=>by
  have:=h8.1 j f hf;simpa using this) (by
   intro i f hf;have hi:i<cH.size:=by
    have:=(hQ.1 hf).1;simpa using this
   obtain⟨m,g1,g2,_⟩:=k i hi;rw[b4,g1]at hf;cases hf;simpa using g2) k2 s_
 unfold gt;simp only[hD,cR b,hB];rw[<-Array.forIn_toList];rw[key];simp
theorem CT{T:c7}{u:Nat}{fs:List PV}{g:c9}(p:aB P w aa (.st u fs) g):∀(k:List (PV×PV))(f:List dk)(i:Nat)(r:Option PV),cF P w aa k f->gu P T k (.st u fs)=some r->
 (r=none/\(gm T g f i).run P w=.ok none w/\∀x n born,aB P w aa x n->cF P w aa (gS k (.st u fs) x) (f++[{key:=g,val:=n,born}]))\/∃(v:PV)(j:Nat)(e:dk),r=some v/\(gm T g f i).run P w=.ok (some (i+j,e.val)) w/\aB P w aa v e.val
 |[],f,i,r,m,h=>by
  simp only[cF]at m;simp[gu]at h;subst m;subst h;refine .inl ⟨rfl,by simp[gm],fun x n born hx=>?_⟩;simp only[gS,cF];exact⟨_,[],rfl,p,hx,rfl⟩
 |(y,v')::k,f,i,r,m,h=>by
  simp only[cF]at m;obtain⟨e,rest,rfl,s,t,z⟩:=m;simp only[gu]at h;have q:∀b,qj P T (.st u fs) y=some b->(hh T g e.key).run P w=.ok b w/\gU (.st u fs) y=some b:=by
   intro b l;simp only[qj]at l
   split at l
   ·rename_i a c A hc;cases a<;>cases c<;>simp at l<;>subst l<;>
    ·obtain⟨d,B,hq⟩:=za T g e.key;rw[hq];exact⟨zf 9 T _ _ _ A _ _ p s _ B,hc⟩
   ·simp at l
  split at h
  ·rename_i o;simp at h;subst h;obtain⟨g1,g2⟩:=q _ o;exact .inr ⟨v',0,e,rfl,by simp[gm,g1],t⟩
  ·rename_i o;obtain⟨g1,g2⟩:=q _ o;rcases CT p k rest (i+1) r z h with⟨rfl,f1,f2⟩|⟨v,j,e',rfl,f1,f3⟩
   ·refine .inl ⟨rfl,by simp[gm,g1,f1],fun x n born hx=>?_⟩;simp only[gS,g2];rw[if_neg s_];simp only[cF];exact⟨e,_,rfl,s,t,f2 x n born hx⟩
   ·refine .inr ⟨v,j+1,e',rfl,?_,f3⟩;simp[gm,g1,f1];omega
  ·simp at h
theorem Dl{T:c7}{cH:Array ee}(c:P.underlying T=some (.struct cH)){b:c9}{a:List dk}{f:Option (Nat×c9)}(h:(gm T b a 0).run P w=.ok f w):(gy T b a).run P w=.ok f w:=by
 unfold gy;simp only[hD,cR c,hB];cases a with
 |nil=>
  simp only[gi];simpa[gm]using h
 |cons e es=>
  have:gi (.struct cH) b (e::es) 0=none:=by simp[gi,g9]
  rw[this];exact h
theorem Ct{T:c7}{key:PV}(h:fj P T key=true)(hl:¬kW key):∃u fs cH,key= .st u fs/\P.underlying T=some (.struct cH)/\cH.toList.all (fun f=>f.name != "_" &&tS P f.type)=true/\(fy P 9 T (.st u fs) (.st u fs)).isSome=true:=by
 cases key<;>first
  |exact(hl trivial).elim
  |skip
 rename_i u fs;simp only[fj]at h
 split at h
 ·rename_i cH a;rw[cy]at h;exact⟨u,fs,cH,rfl,a,h.1,h.2⟩
 ·cases h
theorem Nb{T:c7}{key:PV}{g:c9}(hk:fj P T key=true)(f:aB P w aa key g){b:List (PV×PV)}{a:List dk}{r:Option PV}(k:cF P w aa b a)(h:gu P T b key=some r):
 (∀e,(gt e 10000 T g).run P w=.ok () w)/\
 ((r=none/\(gy T g a).run P w=.ok none w)\/∃(v:PV)(j:Nat)(e:dk),r=some v/\(gy T g a).run P w=.ok (some (j,e.val)) w/\aB P w aa v e.val):=by
 by_cases hl:kW key
 ·obtain⟨d,c,n⟩:=yF hk hl f;refine⟨fun e=>run_checkKey c n _ 9999,?_⟩;rcases Dk c hk hl f b a 0 r k h with⟨rfl,f1⟩|⟨v,j,e,rfl,f1,f2,f3,f4,_⟩
  ·exact .inl ⟨rfl,run_findKey c f1⟩
  ·exact .inr ⟨v,0+j,e,rfl,run_findKey c f1,f3⟩
 ·obtain⟨u,fs,cH,rfl,i,l,m⟩:=Ct hk hl;refine⟨fun e=>Va i l m f e,?_⟩;rcases CT f b a 0 r k h with⟨rfl,f1,_⟩|⟨v,j,e,rfl,f1,f3⟩
  ·exact .inl ⟨rfl,Dl i f1⟩
  ·exact .inr ⟨v,0+j,e,rfl,Dl i f1,f3⟩
theorem J0{T:c7}{key x:PV}{g i:c9}(d:aB P w aa key g)(hx:aB P w aa x i)(born:Nat):∀(a:List (PV×PV))(c:List dk),kW key->cF P w aa a c->gu P T a key=some none->cF P w aa (gS a key x) (c++[{key:=g,val:=i,born}])
 |[],c,_,b,_=>by
  simp only[cF]at b;subst b;simp only[gS,cF];exact⟨_,[],rfl,d,hx,rfl⟩
 |(n,v')::a,c,f,b,h=>by
  simp only[cF]at b;obtain⟨e,rest,rfl,j,k,l⟩:=b;simp only[gu,DW f]at h
  split at h
  ·simp at h
  ·rename_i m;simp only[gS,m];rw[if_neg s_];simp only[cF];exact⟨e,_,rfl,j,k,J0 (T:=T) d hx born a rest f l h⟩
  ·simp at h
def uh(ok:Bool)(z:PV):Option PV->PV
 |some v=>if ok then .aE [v,.bool true]else v
 |none=>if ok then .aE [z,.bool false]else z
theorem WX{T:c7}{c E:c7}{x i:c6}{ok:Bool}{key z:PV}{r:Option PV}{k:List (PV×PV)}(C:o.op= .lookup T x i ok)(g:jP P T=some (c,E))(F:cK P E=some z)(hk:fj P c key=true)(hl:gu P c k key=some r)
 {ρc:c6->c9}(B:aB P w aa key (ρc i))(hx:(ρc x=.map none/\k=[])\/∃b a d,ρc x=.map (some b)/\w.heap[b]?=some (.map a d)/\cF P w aa k a.toList):
 ∃p,(da ρc o).run P w=.ok (.value p) w/\aB P w aa (uh ok z r) p:=by
 have m:P.underlying T=some (.map c E):=by
  unfold jP at g
  split at g
  ·rename_i D;simp at g;rw[D,g.1,g.2]
  ·simp at g
 obtain⟨u,t,z2⟩:=NC F;obtain⟨a,s,n⟩:∃a:Array dk,((ρc x=.map none/\a=#[])\/∃b d,ρc x=.map (some b)/\w.heap[b]?=some (.map a d))/\cF P w aa k a.toList:=by
  rcases hx with⟨hx,rfl⟩|⟨b,a,d,hx,h,n⟩
  ·exact⟨#[],.inl ⟨hx,rfl⟩,by simp[cF]⟩
  ·exact⟨a,.inr ⟨b,d,hx,h⟩,n⟩
 obtain⟨l,y⟩:=Nb hk B n hl
 have q:∀(f:Option (Nat×c9))(v:c9)(b:Bool),(gy c (ρc i) a.toList).run P w= .ok f w->(f=none/\v=u/\b=false\/∃j,f=some (j,v)/\b=true)->
  (da ρc o).run P w=.ok (.value (if ok then .tuple #[v,.bool b]else v)) w:=by
  intro f v b hf A;simp only[da,C];refine eJ ?_;rcases A with⟨rfl,rfl,rfl⟩|⟨j,rfl,rfl⟩
  ·rcases s with⟨hx,rfl⟩|⟨b,d,hx,h⟩
   ·have hf:(gy c (ρc i) []).run P w=.ok none w:=hf;cases ok<;>simp[g7,cR m,hx,l,hf,t]
   ·cases ok<;>simp[g7,cR m,hx,hb h,l,hf,t]
  ·rcases s with⟨hx,rfl⟩|⟨b,d,hx,h⟩
   ·have hf:(gy c (ρc i) []).run P w=.ok (some (j,v)) w:=hf;cases ok<;>simp[g7,cR m,hx,l,hf]
   ·cases ok<;>simp[g7,cR m,hx,hb h,l,hf]
 rcases y with⟨rfl,f1⟩|⟨v,j,e,rfl,f1,f3⟩
 ·refine⟨_,q none u false f1 (.inl ⟨rfl,rfl,rfl⟩),?_⟩;cases ok with
  |true=>simp only[uh,if_true,aB,bm];exact⟨_,⟨_,_,rfl,z2 w aa,_,_,rfl,rfl,rfl⟩,rfl⟩
  |false=>simpa[uh]using z2 w aa
 ·refine⟨_,q _ e.val true f1 (.inr ⟨_,rfl,rfl⟩),?_⟩;cases ok with
  |true=>simp only[uh,if_true,aB,bm];exact⟨_,⟨_,_,rfl,f3,_,_,rfl,rfl,rfl⟩,rfl⟩
  |false=>simpa[uh]using f3
theorem vF{T:c7}{c E:c7}{x g:c6}{ok:Bool}{key z:PV}{r:Option PV}{es:List (PV×PV)}{ak:List (Nat×Obj)}(f:o.op= .lookup T x g ok)(n:jP P T=some (c,E))(t:cK P E=some z)(hi:ρ g= .p key)(hk:fj P c key=true)(hl:gu P c es key=some r)
 (hx:(ρ x=.p .fM/\es=[])\/ρ x=.p (.fq es)\/∃b fz,ρ x=.map b/\(b,.map fz es)∈ak):
 bt P o ρ base {v:=.p (uh ok z r),ak}:=by
 refine bt.same fun H w aa ah β u s i ak=>?_;have a:=(i x (by simp[f,he])).1;have e:=(i g (by simp[f,he])).1;rw[hi]at e;simp only[aw]at e;obtain⟨j,c1,c2⟩:=WX f n t hk hl (ρc:=u) (w:=w) (aa:=aa) e (by
  rcases hx with⟨hx,rfl⟩|hx|⟨b,fz,hx,q⟩
  ·rw[hx]at a;simp only[aw,aB]at a;exact .inl ⟨a,rfl⟩
  ·rw[hx]at a;simp only[aw,aB]at a;obtain⟨b,d,clock,_,k,l,m⟩:=a;exact .inr ⟨b,d,clock,m,k,l⟩
  ·rw[hx]at a;simp only[aw,bO,bV]at a;have h:=ak _ q;obtain⟨d,clock,k1,k2,_⟩:=s.cS b _ h;exact .inr ⟨_,d,clock,a.2.1 ⟨_,h,trivial⟩,k1,k2⟩)
 exact⟨j,c1,by simpa only[aw]using c2,by simp[aC]⟩
theorem WQ{T:c7}(e:o.op=.makeMap T none):bt P o ρ base {v:=.map base,aS:=[.map false []]}:=by
 intro H w aa ah β i b j _ d;have a:H[base]?=some .hole:=by simpa using d 0 s_
 have g:(da i o).run P w=.ok (.value (.map (some w.heap.size))) {w with heap:=w.heap.push (.map #[] 0)}:=by
  simp only[da,e];exact vt (by simp[Instr.makeMap])
 have f:=tD (cap:=0) b a (ob:=.map #[] 0) (o':=.map false [])
  ⟨#[],0,by simp[Bd.at],by simp[cF],by
   simp only[cC,Bd.at,if_true,cN,if_false];exact⟨fun h=>kt _ (b.bX _ h),fun h=>kt _ (b.eX _ h)⟩⟩ trivial
 refine⟨_,_,_,_,aa,g,.inl rfl,f,?_,?_⟩
 ·simp only[aw,bO,bV,l8];exact⟨rfl,fun _=>by simp[Bd.at],fun⟨L,c⟩=>by rw[hR (hQ.1 a).1]at c;cases c⟩
 ·simp only[aC,l8];exact⟨_,hR (hQ.1 a).1,trivial⟩
theorem DM(f:b7 P w aa β H ah){b:Nat}{o o':Obj}(a:H[b]?=some o)(hl:o.live)(i:o'.live)(m:∀v,o.has v->o'.has v)(j:∀L,o≠ .loop L){ob:Go.Obj}
 (_hb:β.al b<w.heap.size)(e:¬aa (β.al b)/\¬ah (β.al b))(aI:cm β H β (H.set b o'))
 (n:fJ P {w with heap:=w.heap.setIfInBounds (β.al b) ob} aa β (H.set b o') ah b o')(p:o'.refs (aH (H.set b o'))):
 bZ P ah aa w β H aa {w with heap:=w.heap.setIfInBounds (β.al b) ob} β (H.set b o'):=by
 refine bZ.set f (hQ.1 a).1 (fun _ _=>⟨rfl,rfl⟩) (fun _ x=>x) (fun _ x=>.inl x) (fun k hk=>by simpa using f.bX k hk) s_
  (fun k hk _=>?_) (fun _=>.inr ⟨rfl,⟨o,a,hl⟩,.inr e.1,e.2⟩) aI n p (fun q v c g=>by rw[a]at c;cases c;exact m v g) (fun L d=>by rw[a]at d;cases d;exact(j L rfl).elim)
 have l:k≠β.al b:=hk.resolve_right (fun h=>h i);simp[lq l]
theorem JD{T s E:c7}{m k x:c6}{b:Nat}{key v:PV}{a:List (PV×PV)}{r:Option PV}(f:o.op= .mapUpdate T m k x\/o.op= .insert T m k x)(y:jP P T=some (s,E))(ab:ρ m= .map b)(hk:ρ k= .p key)(hx:ρ x= .p v)
 (hf:fj P s key=true)(hl:mu P s a key=some r):bt P o ρ base {v:=.p (.aE []),ak:=[(b,.map false a)],aG:=[(b,.map false (gS a key v))]}:=by
 have M:P.underlying T=some (.map s E):=by
  unfold jP at y
  split at y
  ·rename_i N;simp at y;rw[N,y.1,y.2]
  ·simp at y
 intro H w aa ah β c S O ak _;have F:H[b]?=some (.map false a):=by simpa using ak
 have L:m∈o.op.operands/\k∈o.op.operands/\x∈o.op.operands:=by
  rcases f with f|f<;>simp[f,he]
 have i:=(O m L.1).1;have l:=(O k L.2.1).1;have A:=(O x L.2.2).1;rw[ab]at i;rw[hk]at l;rw[hx]at A;simp only[aw,bO,bV]at i l A;have i:=i.2.1 ⟨_,F,trivial⟩;obtain⟨g,clock,k1,k2,k3⟩:=S.cS b _ F;have R:¬aa (β.al b)/\¬ah (β.al b):=by
  unfold cC at k3;rw[if_neg s_]at k3;exact k3
 have D:gu P s a key=some r:=by
  by_cases q:kW key
  ·rw[<-VE q];exact hl
  ·obtain⟨u,fs,cH,rfl,_⟩:=Ct hf q;simp only[mu]at hl
   split at hl
   ·rename_i hq;rw[hq];exact hl
   ·cases hl
 have J:=(Nb hf l k2 D).1 false;have Q:β.al b<w.heap.size:=(b1.1 k1).1;have aI:cm β H β (H.set b (.map false (gS a key v))):=pB F (.inr (.inr (.inl ⟨_,_,_,_,rfl,rfl⟩)))
 have I:∀(t:Array dk)(z:Nat),(gD T (c m) (c k) (c x)).run P w= .ok () {w with heap:=w.heap.setIfInBounds (β.al b) (.map t z)}->cF P w aa (gS a key v) t.toList->
  ∃n G w' aJ aD,(da c o).run P w=.ok n w'/\(n=.value G\/n=.skip/\G=undef)/\
  bZ P ah aa w β H aD w' aJ (aW H ([(b,.map false (gS a key v))]++newAt base []))/\aw P w' aD aJ (aW H ([(b,.map false (gS a key v))]++newAt base [])) (.p (.aE [])) G/\
  aC (aH (aW H ([(b,.map false (gS a key v))]++newAt base []))) (.p (.aE [])):=by
  intro t z ae ac;have W:(da c o).run P w=.ok .skip {w with heap:=w.heap.setIfInBounds (β.al b) (.map t z)}:=by
   rcases f with f|f<;>simp[da,f,ae]
  have af:∀C,aa C->({w with heap:=w.heap.setIfInBounds (β.al b) (.map t z)}:dg).heap[C]?=w.heap[C]?:=by
   intro C Z;have:β.al b≠C:=fun V=>R.1 (V▸Z);simp[this]
  refine⟨_,_,_,β,aa,W,.inr ⟨rfl,rfl⟩,?_,by simp[aw,aB,bm,undef],by simp[aC]⟩;simp only[newAt,hV,aW];exact DM (o':=.map false (gS a key v)) S F trivial trivial (fun _ h=>h) (fun _ h=>by cases h) Q R aI ⟨t,z,by simp[Q],cF.mono (fun _ x=>x) af _ _ ac,k3⟩ trivial
 by_cases q:kW key
 case neg=>
  obtain⟨u,fs,cH,rfl,N,_,_⟩:=Ct hf q;have ad:r=none:=by
   simp only[mu]at hl
   split at hl
   ·simpa using hl.symm
   ·cases hl
  subst ad;rcases CT l a g.toList 0 none k2 D with⟨_,f1,f2⟩|⟨v',j,e,U,_⟩
  ·have B:=Dl N f1;refine I (g.push {key:=c k,val:=c x,born:=clock}) (clock+1) ?_ ?_
   ·rw[i];simp only[gD,hD,cR M,hB,hb k1,J,B,run_setObj_map _ k1]
   ·rw[cc];exact f2 v (c x) clock A
  ·cases U
 obtain⟨d,K,X⟩:=yF hf q l;rcases Dk K hf q l a g.toList 0 r k2 D with⟨rfl,f1⟩|⟨v',j,e,rfl,f1,f2,f3,f4,f5⟩
 ·have B:=run_findKey (w:=w) K f1;refine I (g.push {key:=c k,val:=c x,born:=clock}) (clock+1) ?_ ?_
  ·rw[i];simp only[gD,hD,cR M,hB,hb k1,J,B,run_setObj_map _ k1]
  ·rw[cc];exact J0 (T:=s) l A clock a g.toList q k2 D
 ·have B:=run_findKey (w:=w) K f1;have Y:g[j]?=some e:=by simpa using f2
  refine I (g.modify j fun e=>{e with key:=c k,val:=c x}) clock ?_ ?_
  ·rw[i];simp only[gD,hD,cR M,hB,hb k1,J,B];simp only[la,Y,lv,lu,f4,run_keyThatStays X,hB,run_setObj_map _ k1]
  ·rw[Array.toList_modify];exact f5 v (c x) A
theorem xZ{v:PV}:lN v=true->kW v:=by
 cases v<;>simp[lN,kW]
theorem Uh{b:Nat}{o o':Obj}(e:H[b]?=some o)(i:o.vg)(d:o'.vg):cm β H β (H.set b o'):=by
 have g:b<H.length:=(hQ.1 e).1;have a:∀x,x≠b->(H.set b o')[x]?=H[x]?:=fun x hx=>h3 (lq hx);have c:(H.set b o')[b]?=some o':=hR g;refine⟨?_,?_,?_,?_,?_⟩
 ·rintro x _ ⟨fz,t,h⟩;refine⟨?_,rfl⟩
  by_cases hx:x=b
  ·subst hx;rw[c]at h;cases h;exact d.elim
  ·rw[a x hx]at h;exact⟨fz,t,h⟩
 ·rintro x _ ⟨fz,t,h⟩;refine⟨?_,rfl⟩
  by_cases hx:x=b
  ·subst hx;rw[c]at h;cases h;exact d.elim
  ·rw[a x hx]at h;exact⟨fz,t,h⟩
 ·rintro x _ ⟨l,h,j⟩;refine⟨?_,rfl⟩
  by_cases hx:x=b
  ·subst hx;exact⟨o,e,i⟩
  ·rw[a x hx]at h;exact⟨l,h,j⟩
 ·intro x aq ai k f _ h
  by_cases hx:x=b
  ·subst hx;unfold eA at h;rw[c]at h;cases h;exact d.elim
  ·unfold eA at h⊢;rw[a x hx]at h;exact⟨k,f,h,kp _,Iff.rfl,fun _=>⟨rfl,rfl⟩⟩
 ·rintro x _ ⟨L,h⟩;refine⟨?_,rfl⟩
  by_cases hx:x=b
  ·subst hx;rw[c]at h;cases h;exact d.elim
  ·rw[a x hx]at h;exact⟨L,h⟩
theorem HL:∀{b:List (PV×PV)}{a:List dk},cF P w aa b a->bm P w aa (b.map (·.1)) (a.map (·.key))/\br P w aa β H (b.map fun e=>.p e.2) (a.map (·.val))
 |[],a,h=>by
  simp only[cF]at h;subst h;simp[bm,br]
 |(k,v)::r,a,h=>by
  simp only[cF]at h;obtain⟨e,rest,rfl,c,d,f⟩:=h;obtain⟨i1,i2⟩:=HL f;simp only[hU,bm,br];exact⟨⟨_,_,rfl,c,i1⟩,⟨_,_,rfl,by simpa only[aw]using d,i2⟩⟩
theorem UU{b:Nat}{d:Obj}{ks:List PV}{vs:List AV}(h:b7 P w aa β H ah)(g:H[b]?=some d)(a:o9 d=some (ks,vs)):
 d.vg/\(∃c f,w.heap[β.al b]?=some (.map c f)/\bm P w aa ks (c.toList.map (·.key))/\br P w aa β H vs (c.toList.map (·.val))/\cC aa β ah false b)/\aR (aH H) vs:=by
 cases d<;>simp only[o9]at a<;>try (cases a;done)
 case map fz es=>
  cases fz
  case true=>simp at a
  simp only[lw,l1]at a;obtain⟨rfl,rfl⟩:=a;obtain⟨c,f,k1,k2,k3⟩:=h.cS b _ g;obtain⟨i1,i2⟩:=HL (β:=β) (H:=H) k2;exact⟨trivial,⟨c,f,k1,i1,i2,k3⟩,cO.2 fun v i=>by obtain⟨e,_,rfl⟩:=km.1 i;trivial⟩
 case cQ j k=>
  simp only[lw,l1]at a;obtain⟨rfl,rfl⟩:=a;exact⟨trivial,h.cS b _ g,h.refs b _ g⟩
theorem BC{T:c7}{d:eq}(n:P.underlying T=some d){key:PV}{o:c9}(hk:fj P T key=true)(g:kW key)(m:aB P w aa key o):∀(ks:List PV)(vs:List AV)(c:List dk)(i:Nat)(r:Option AV),bm P w aa ks (c.map (·.key))->br P w aa β H vs (c.map (·.val))->jW P T ks vs key=some r->
 (r=none/\gi d o c i=some none)\/∃(v:AV)(j:Nat)(e:dk),r=some v/\gi d o c i=some (some (i+j,e.val))/\aw P w aa β H v e.val/\v∈vs
 |[],vs,c,i,r,f,k,h=>by
  cases c with
  |nil=>
   cases vs with
   |nil=>simp[jW]at h;subst h;exact .inl ⟨rfl,rfl⟩
   |cons a b=>simp[jW]at h
  |cons a b=>simp[bm]at f
 |u::ks,vs,c,i,r,f,k,h=>by
  cases c with
  |nil=>simp[bm]at f
  |cons e rest=>
   cases vs with
   |nil=>simp[br]at k
   |cons v' vs=>
    simp only[hU,bm,br,List.cons.injEq]at f k;obtain⟨_,_,⟨rfl,rfl⟩,p,q⟩:=f;obtain⟨_,_,⟨rfl,rfl⟩,s,t⟩:=k;simp only[jW,DW g]at h
    split at h
    ·rename_i l;simp at h;subst h;obtain⟨g1,g2⟩:=Aa n hk g l m p;exact .inr ⟨v',0,e,rfl,by simp[gi,g1],s,List.mem_cons_self⟩
    ·rename_i l;obtain⟨g1,g2⟩:=Aa n hk g l m p;rcases BC n hk g m ks vs rest (i+1) r q t h with⟨rfl,f1⟩|⟨v,j,e',rfl,f1,f3,f4⟩
     ·exact .inl ⟨rfl,by simp[gi,g1,f1]⟩
     ·exact .inr ⟨v,j+1,e',rfl,by simp[gi,g1,f1];omega,f3,h0 _ f4⟩
    ·simp at h
def nS(ok:Bool)(z:PV):Option AV->AV
 |some v=>if ok then .aE [v,.p (.bool true)]else v
 |none=>.p (if ok then .aE [z,.bool false]else z)
theorem Hj{T:c7}{f E:c7}{x k:c6}{ok:Bool}{key z:PV}{r:Option AV}{b:Nat}{ks:List PV}{vs:List AV}(i:o.op= .lookup T x k ok)(c:jP P T=some (f,E))(C:cK P E=some z)(hi:ρ k= .p key)(hk:fj P f key=true)(n:lN key=true)(hl:jW P f ks vs key=some r)
 (hx:ρ x=.map b):bt P o ρ base {v:=nS ok z r,ak:=[(b,.cQ ks vs)]}:=by
 refine bt.same fun H w aa ah β F s t ak=>?_;have a:=(t x (by simp[i,he])).1;have g:=(t k (by simp[i,he])).1;rw[hi]at g;simp only[aw]at g;rw[hx]at a;simp only[aw,bO,bV]at a;have l:H[b]?=some (.cQ ks vs):=by simpa using ak
 obtain⟨y,clock,k1,k2,k3,_⟩:=s.cS b _ l;have hrefs:aR (aH H) vs:=s.refs b _ l;have a:=a.2.1 ⟨_,l,trivial⟩;have q:P.underlying T=some (.map f E):=by
  unfold jP at c
  split at c
  ·rename_i B;simp at c;rw[B,c.1,c.2]
  ·simp at c
 obtain⟨u,D,z2⟩:=NC C;obtain⟨d,h,A⟩:=yF hk (xZ n) g;have m:∀e,(gt e 10000 f (F k)).run P w=.ok () w:=fun e=>run_checkKey h A _ 9999;rcases BC h hk (xZ n) g ks vs y.toList 0 r k2 k3 hl with⟨rfl,f1⟩|⟨v,j,e,rfl,f1,f3,f4⟩
 ·have hf:=run_findKey (w:=w) h f1;refine⟨if ok then .tuple #[u,.bool false]else u,?_,?_,by cases ok<;>simp[nS,aC]⟩
  ·simp only[da,i];refine eJ ?_;cases ok<;>simp[g7,cR q,a,hb k1,m,hf,D]
  ·cases ok with
   |true=>simp only[nS,if_true,aw,aB,bm];exact⟨_,⟨_,_,rfl,z2 w aa,_,_,rfl,rfl,rfl⟩,rfl⟩
   |false=>simpa[nS,aw]using z2 w aa
 ·have hf:=run_findKey (w:=w) h f1;refine⟨if ok then .tuple #[e.val,.bool true]else e.val,?_,?_,?_⟩
  ·simp only[da,i];refine eJ ?_;cases ok<;>simp[g7,cR q,a,hb k1,m,hf]
  ·cases ok with
   |true=>simp only[nS,if_true,aw,br,aB];exact⟨_,⟨_,_,rfl,f3,_,_,rfl,rfl,rfl⟩,rfl⟩
   |false=>simpa[nS]using f3
  ·have:=cO.1 hrefs v f4;cases ok<;>simp[nS,aC,aR,this]
theorem HK{w:dg}{aa:Nat->Prop}{k:PV}{x:c9}:∀{a:List PV}{l:List c9},bm P w aa a l->aB P w aa k x->bm P w aa (a++[k]) (l++[x])
 |[],l,h,hx=>by simp only[bm]at h;subst h;simp only[i7,bm];exact⟨_,_,rfl,hx,rfl⟩
 |v::a,l,h,hx=>by
  simp only[bm]at h;obtain⟨y,d,rfl,b,c⟩:=h;simp only[List.cons_append,bm];exact⟨_,_,rfl,b,HK c hx⟩
theorem xY{T i E:c7}{m k x:c6}{b:Nat}{key:PV}{u:Obj}{ks:List PV}{vs:List AV}(c:o.op= .mapUpdate T m k x\/o.op= .insert T m k x)(g:jP P T=some (i,E))(Z:ρ m= .map b)(hk:ρ k= .p key)
 (hf:fj P i key=true)(O:o9 u=some (ks,vs))(F:lN key=true)(hl:jW P i ks vs key=some none):bt P o ρ base {v:=.p (.aE []),ak:=[(b,u)],aG:=[(b,.cQ (ks++[key]) (vs++[ρ x]))]}:=by
 have ab:P.underlying T=some (.map i E):=by
  unfold jP at g
  split at g
  ·rename_i ad;simp at g;rw[ad,g.1,g.2]
  ·simp at g
 intro H w aa ah β a G B ak _;have s:H[b]?=some u:=by simpa using ak
 have A:m∈o.op.operands/\k∈o.op.operands/\x∈o.op.operands:=by
  rcases c with c|c<;>simp[c,he]
 have n:=(B m A.1).1;have q:=(B k A.2.1).1;obtain⟨M,N⟩:=B x A.2.2;rw[Z]at n;rw[hk]at q;simp only[aw,bO,bV]at n q;obtain⟨r,⟨l,clock,k1,k2,k3,k4⟩,ae⟩:=UU G s O;have n:=n.2.1 ⟨_,s,r⟩;have D:¬aa (β.al b)/\¬ah (β.al b):=by
  unfold cC at k4;rw[if_neg s_]at k4;exact k4
 obtain⟨d,z,W⟩:=yF hf (xZ F) q;have R:(gt false 10000 i (a k)).run P w=.ok () w:=run_checkKey z W _ 9999;have C:β.al b<w.heap.size:=(b1.1 k1).1;have Q:b<H.length:=(hQ.1 s).1;have aI:cm β H β (H.set b (.cQ (ks++[key]) (vs++[ρ x]))):=Uh s r trivial;rcases BC z hf (xZ F) q ks vs l.toList 0 none k2 k3 hl with⟨_,f1⟩|⟨v',j,e,L,_⟩
 case inr=>cases L
 have V:=run_findKey (w:=w) z f1;have ac:(gD T (a m) (a k) (a x)).run P w=.ok () {w with heap:=w.heap.setIfInBounds (β.al b) (.map (l.push {key:=a k,val:=a x,born:=clock}) (clock+1))}:=by
  rw[n];simp only[gD,hD,cR ab,hB,hb k1,R,V,run_setObj_map _ k1]
 have U:(da a o).run P w=.ok .skip {w with heap:=w.heap.setIfInBounds (β.al b) (.map (l.push {key:=a k,val:=a x,born:=clock}) (clock+1))}:=by
  rcases c with c|c<;>simp[da,c,ac]
 have I:∀t,aa t->({w with heap:=w.heap.setIfInBounds (β.al b) (.map (l.push {key:=a k,val:=a x,born:=clock}) (clock+1))}:dg).heap[t]?=w.heap[t]?:=by
  intro t Y;have:β.al b≠t:=fun S=>D.1 (S▸Y);simp[this]
 have X:∀y,aH H y->aH (H.set b (.cQ (ks++[key]) (vs++[ρ x]))) y:=by
  rintro⟨y,v⟩ ⟨ag,af,f⟩
  by_cases K:b=y
  ·subst K;exact⟨.cQ (ks++[key]) (vs++[ρ x]),by simp only;rw[hR Q],trivial⟩
  ·exact⟨ag,by simp only;rw[h3 K];exact af,f⟩
 have J:aR (aH H) (vs++[ρ x]):=cO.2 fun v f=>by
  rcases i8.1 f with f|f
  ·exact cO.1 ae v f
  ·rw[ix.1 f];exact N
 refine⟨_,_,_,β,aa,U,.inr ⟨rfl,rfl⟩,?_,by simp[aw,aB,bm,undef],by simp[aC]⟩;simp only[newAt,hV,aW];refine DM (o':=.cQ (ks++[key]) (vs++[ρ x])) G s (by cases u<;>first|trivial|exact r.elim) trivial (fun _ _=>trivial) (fun _ h=>by rw[h]at r;exact r.elim) C D aI ⟨l.push {key:=a k,val:=a x,born:=clock},clock+1,by simp[C],?_,?_,k4⟩ (aR.mono X _ J)
 ·rw[cc,h5];exact bm.mono (fun _ x=>x) I _ _ (HK k2 q)
 ·rw[cc,h5];refine br.mono (fun _ x=>x) I aI _ _ J (pj k3 ?_);simp only[hU,h7,br];exact⟨_,_,rfl,M,rfl⟩
theorem xP{c:c7}{b:Nat}{key:PV}{x:AV}{a:Obj}{K:aU->Prop}(h:mU P c b key x a K):∃ks vs,o9 a=some (ks,vs)/\lN key=true/\jW P c ks vs key=some none/\K {v:=.p (.aE []),ak:=[(b,a)],aG:=[(b,.cQ (ks++[key]) (vs++[x]))]}:=by
 unfold mU at h
 split at h
 ·rename_i ks vs d;exact⟨ks,vs,d,h⟩
 ·exact h.elim
end
section
variable{P:c8}{w:dg}{aa ah:Nat->Prop}{β:Bd}{H:Heap}
variable{o:Oper}{ρ:c6->AV}{base:Nat}
theorem VV(bs:ByteArray):gM (jx bs)=bs:=by
 unfold gM jx;apply ByteArray.ext;apply b3;simp only[i6];have:(l4∘fun x:UInt8=>x.toNat)=id:=by funext x;simp
 rw[this];simp
theorem Y2{T:c7}{x:c6}{s:List Nat}(d:o.op=.range T x)(hx:ρ x=.p (.str s))(e:iW P T=true):bt P o ρ base {v:=.ptr base [],aS:=[.dD s 0]}:=by
 intro H w aa ah β k b j _ f;have c:H[base]?=some .hole:=by simpa using f 0 s_
 have a:=(j x (by simp[d,he])).1;rw[hx]at a;simp only[aw,aB]at a;obtain⟨bs,e1,e2⟩:=a;have i:(da k o).run P w=.ok (.value (.pointer (some ⟨w.heap.size,0,none⟩))) {w with heap:=w.heap.push (.stringIter bs 0)}:=by
  simp only[da,d,e1];exact vt (by simp[Instr.range,cR (yy e)])
 have g:=tD (cap:=0) b c (ob:=.stringIter bs 0) (o':=.dD s 0)
  ⟨bs,by simp[Bd.at],e2,by
   simp only[cC,Bd.at,if_true,cN,if_false];exact⟨fun h=>kt _ (b.bX _ h),fun h=>kt _ (b.eX _ h)⟩⟩ trivial
 refine⟨_,_,_,_,aa,i,.inl rfl,g,?_,?_⟩
 ·simp only[aw,bO,bV,l8];exact⟨rfl,_,_,0,rfl,rfl,fun _=>by simp[Bd.at]⟩
 ·simp only[aC,l8];exact⟨_,hR (hQ.1 c).1,trivial⟩
theorem aKI{it:c6}{b:Nat}{s:List Nat}{pos:Nat}(g:o.op= .next it true)(hx:ρ it= .ptr b []):
 (pos<s.length->bt P o ρ base {v:=.p (.aE [.bool true,.int .i64 pos,.int .i32 (hL (gM s) pos).1]),ak:=[(b,.dD s pos)],aG:=[(b,.dD s (pos+(hL (gM s) pos).2))]})/\
 (¬pos<s.length->bt P o ρ base {v:=.p (.aE [.bool false]),ak:=[(b,.dD s pos)]}):=by
 have key:∀{H:Heap}{w:dg}{aa ah:Nat->Prop}{β:Bd}{e:c6->c9},b7 P w aa β H ah->(∀x∈o.op.operands,aw P w aa β H (ρ x) (e x)/\aC (aH H) (ρ x))->H[b]?=some (.dD s pos)->
  e it=.pointer (some ⟨β.al b,0,none⟩)/\∃bs:ByteArray,w.heap[β.al b]?=some (.stringIter bs pos)/\s=jx bs/\(¬aa (β.al b)/\¬ah (β.al b)):=by
  intro H w aa ah β e d f a;have c:=(f it (by simp[g,he])).1;rw[hx]at c;simp only[aw,bO,bV]at c;obtain⟨_,al,off,t,m,k,n⟩:=c;simp[gG]at k;subst k;obtain⟨rfl,rfl⟩:=n (.inr ⟨_,_,a⟩);obtain⟨bs,k1,k2,k3⟩:=d.cS b _ a;unfold cC at k3;rw[if_neg s_]at k3;exact⟨m,bs,k1,k2,k3⟩
 constructor
 ·intro i H w aa ah β e d f ak _;have a:H[b]?=some (.dD s pos):=by simpa using ak
  obtain⟨c,bs,k1,rfl,k3⟩:=key d f a;have j:pos<bs.size:=by simpa[jx]using i
  have l:β.al b<w.heap.size:=(b1.1 k1).1;rw[VV];have r:(da e o).run P w=.ok (.value (.tuple #[.bool true,goInt pos,.int .i32 (hL bs pos).1])) {w with heap:=w.heap.setIfInBounds (β.al b) (.stringIter bs (pos+(hL bs pos).2))}:=by
   simp only[da,g,c];refine vt ?_;simp[ha,getObj,setObj,hF,k1,hC,j]
  have aI:cm β H β (H.set b (.dD (jx bs) (pos+(hL bs pos).2))):=pB a (.inr (.inr (.inr ⟨_,_,_,rfl,rfl⟩)));have q:=DM (o':=.dD (jx bs) (pos+(hL bs pos).2)) (ob:=.stringIter bs (pos+(hL bs pos).2)) d a trivial trivial (fun _ h=>h) (fun _ h=>by cases h) l k3 aI
   ⟨bs,by simp[l],rfl,by unfold cC;rw[if_neg s_];exact k3⟩ trivial
  refine⟨_,_,_,β,aa,r,.inl rfl,?_,?_,by simp[aC]⟩
  ·simpa only[newAt,hV,aW]using q
  ·simp only[aw,aB,bm];exact⟨_,⟨_,_,rfl,rfl,_,_,rfl,rfl,_,_,rfl,rfl,rfl⟩,rfl⟩
 ·intro i;refine bt.same fun H w aa ah β e d f ak=>?_;have a:H[b]?=some (.dD s pos):=by simpa using ak
  obtain⟨c,bs,k1,rfl,k3⟩:=key d f a;have j:¬pos<bs.size:=by simpa[jx]using i
  refine⟨.tuple #[.bool false],?_,by simp only[aw,aB,bm];exact⟨_,⟨_,_,rfl,rfl,rfl⟩,rfl⟩,by simp[aC]⟩;simp only[da,g,c];refine eJ ?_;simp[ha,getObj,hF,k1,hC,j]
theorem Y3{T u:c7}{x:c6}{f:Nat}{fs:Array ee}{t g:PV}{F:c7}(h:o.op= .field T x f)(hk:kindOf P T= .agg u)(b:P.underlying T=some (.struct fs))(hx:ρ x= .p t)(hs:aL t= .agg u)(e:(cH t)[f]?=some g)(q:(jX P u)[f]?=some F)(r:kindOf P F=aL g):
 bt P o ρ base {v:=.p g}:=by
 refine bt.same fun H w aa ah β K E z _=>?_;have a:=(z x (by simp[h,he])).1;rw[hx]at a;simp only[aw]at a;cases t<;>simp[aL]at hs;rename_i u' m;subst hs;simp only[cH]at e;simp only[aB]at a;obtain⟨l,d,k1,k2,k3⟩:=a;obtain⟨D,G,s1,s2,I,j,J,A⟩:=vw (P:=P) (T:=T) (u:=u') (n:=fs.size) (by unfold fU;rw[hk,b]);rw[b]at s1;cases s1;rw[k1]at j;cases j;have s:bL P w aa ⟨id,id⟩ [] l (m.map .p) d:=od.2 k2;obtain⟨pre,c,post,e1,e2,e3,e4,e5,_⟩:=tO (f:=.p g) (i:=f) s (by simp[e]);simp only[bp]at e5;obtain⟨C,g1,g2,g3,g4,g5⟩:=A f o_;rw[q]at g5;cases g5;obtain⟨y,k,B⟩:=ru r e5 (pre:=pre) (post:=post) (cs:=d.flatten.toArray) (by simpa using e1);refine⟨y,?_,by simpa only[aw]using B,by simp[aC]⟩;simp only[da,h,k3];refine eJ ?_;rw[e2,<-g2]at k;simp only[Instr.field,hD,cR b,hB,g1];simp[asAgg,k]
theorem Wx{T u:c7}{n:Nat}{x k:c6}{O:ea}{i:Int}{a:List PV}{g:PV}{F:c7}(j:o.op= .index T x k)(A:iA P T=some (u,n))(hx:ρ x= .p (.st u a))(hi:ρ k= .p (.int O i))
 (z:0<=i)(J:i.toNat<n)(h:(jX P u)[i.toNat]?=some F)(E:a[i.toNat]?=some g)(G:kindOf P F=aL g):bt P o ρ base {v:=.p g}:=by
 refine bt.same fun H w aa ah β S R s _=>?_;have b:=(s x (by simp[j,he])).1;have d:=(s k (by simp[j,he])).1;rw[hx]at b;rw[hi]at d;simp only[aw,aB]at b d;obtain⟨l,m,k1,k2,k3⟩:=b;obtain⟨e,r,hk,hl,K⟩:=tJ A;rw[k1]at hl;cases hl;have B:F=e:=by
  obtain⟨D,_,_⟩:=Cs hk;have C:(P.info? u).map (fun i:eb=>i.desc)=some (.array n e):=by rw[D,<-Cc,r]
  unfold jX at h;rw[C]at h;have q:(hT n e)[i.toNat]?=some F:=h;rw[List.getElem?_replicate,if_pos J]at q;exact(lz q).symm
 subst B;have L:bL P w aa ⟨id,id⟩ [] (hT n (P.cellsOf F)) (a.map .p) m:=od.2 k2;obtain⟨pre,c,post,e1,e2,e3,e4,e5,_⟩:=tO (f:=.p g) (i:=i.toNat) L (by simp[E]);simp only[bp]at e5;obtain⟨y,t,Q⟩:=ru G e5 (pre:=pre) (post:=post) (cs:=m.flatten.toArray) (by simpa using e1);have M:((hT n (P.cellsOf F)).take i.toNat).sum=i.toNat*P.cellsOf F:=by rw[List.take_replicate,Nat.min_eq_left o_,List.sum_replicate_nat]
 have N:(sizeOf F).run P w=.ok (P.cellsOf F) w:=by
  cases hi:P.info? F with
  |none=>simp[Program.cellsOf,hi]at K
  |some i=>simp[sizeOf,typeInfo,hi,Program.cellsOf]
 refine⟨y,?_,by simpa only[aw]using Q,by simp[aC]⟩;simp only[da,j,k3,d];refine eJ ?_;have I:i<(n:Int):=o_
 rw[e2,M]at t;simp only[Instr.index,asIntOf,hD,hE,cR r,hB];simp[z,I,N,t]
theorem JM{k:ea}{f:Bool}{ρc:c6->c9}:∀(l:List c6)(a n:Int),mh k f (l.map ρ) a=some n->(∀x∈l,aw P w aa β H (ρ x) (ρc x))->
 ((l.map ρc).foldlM (if f then fl else fd) (.int k a)).run P w=.ok (.int k n) w
 |[],a,n,h,_=>by simp[mh]at h;subst h;simp
 |x::l,a,n,h,g=>by
  simp only[hU]at h;unfold mh at h
  split at h
  ·rename_i e;cases e
  ·rename_i j b r a' e;simp at e;obtain⟨e1,rfl⟩:=e
   split at h
   case isFalse=>simp at h
   rename_i hk;subst hk;have d:=g x s_;rw[e1]at d;simp only[aw,aB]at d;have c:=JM l _ n h (fun y i=>g y (by simp[i]));simp only[hU,List.foldlM_cons,hD,d];cases f with
   |true=>simp only[if_true,fl,hE,hB]at c⊢;exact c
   |false=>simp only[cN,if_false,fd,hE,hB]at c⊢;exact c
  ·simp at h
theorem La{c:Call}{isMax:Bool}{k:ea}{a n:Int}{r:List AV}(j:o.op= .call c)(hc:c.callee= .builtin (if isMax then .max else .min))(b:c.args.toList.map ρ= .p (.int k a)::r)(h:mh k isMax r a=some n):
 bt P o ρ base {v:=.p (.int k n)}:=by
 obtain⟨x,l,hl⟩:∃x l,c.args.toList=x::l:=by
  cases q:c.args.toList with
  |nil=>rw[q]at b;simp at b
  |cons x l=>exact⟨x,l,rfl⟩
 rw[hl]at b;simp at b;obtain⟨hx,rfl⟩:=b;have g:c.args=(x::l).toArray:=by apply b3;simpa using hl
 have i:∀y∈x::l,y∈o.op.operands:=by
  intro y f;rw[j];simp only[he,gg,hc,g];simpa using f
 refine bt.same fun H w aa ah β s t m _=>⟨.int k n,?_,by simp[aw,aB],by simp[aC]⟩
 have d:=(m x (i x s_)).1;rw[hx]at d;simp only[aw,aB]at d;have e:=JM (ρc:=s) l a n h (fun y f=>(m y (i y (by simp[f]))).1);simp only[da,j,resolve,hc,g];cases isMax with
 |true=>
  simp only[if_true]at e⊢;simp[invoke,builtin,gb,d,e]
 |false=>
  simp only[cN,if_false]at e⊢;simp[invoke,builtin,fv,d,e]
theorem aKE{c:Call}{d x:c6}{sz b aq off len:Nat}{k:AK}{f g:List AV}{H0:Heap}(U:o.op= .call c)(hc:c.callee= .builtin .copy)(O:c.args.toList=[d,x])(ar:c.argTypes.size=2)(t:cV P (c.argTypes.getD 0 0)=some sz)
 (ac:ρ d=.sl b aq sz off len)(hx:ib H0 (ρ x)=some g)(ap:fk P sz g)(hk:k≠.frozen)(hl:off+len<=f.length)(C:¬di k f):
 bt P o ρ base {v:=.p (.int .i64 (min g.length len:Nat)),ak:=(b,.arr k aq sz f)::dH H0 (ρ x),aG:=[(b,.arr k aq sz (f.take off++g.take (min g.length len)++f.drop (off+min g.length len)))]}:=by
 obtain⟨T,X,N⟩:∃T X,c.argTypes=#[T,X]:=by
  obtain⟨l,hl⟩:∃l,l=c.argTypes.toList:=⟨_,rfl⟩
  have s:l.length=2:=by rw[hl];simpa using ar
  match l,s with
  |[a,b],_=>exact⟨a,b,by apply b3;simp[<-hl]⟩
 have G:d∈o.op.operands/\x∈o.op.operands:=by
  have ab:c.args=#[d,x]:=by apply b3;simpa using O
  rw[U];simp[he,gg,hc,ab]
 have e1:c.argTypes.getD 0 0=T:=by rw[N];rfl
 rw[e1]at t;obtain⟨e,i,t⟩:=kN t;intro H w aa ah β Z D L ak _;have r:H[b]?=some (.arr k aq sz f):=ak (b,_) s_;have j:=(L d G.1).1;rw[ac]at j;simp only[aw,bO,bV]at j;obtain⟨_,_,j⟩:=j.2 k f r;have j:=j C;rcases D.cS b _ r with hold|⟨cs,E,aD,rest,k1,k2,k3,k4,k5,k6,k7,k8⟩
 ·exact(C hold).elim
 have R:¬aa (β.al b)/\¬ah (β.al b):=by
  unfold cC at k7;rw[if_neg (by simpa using hk)]at k7;exact k7
 obtain⟨aA,av,ax,ay,az⟩:=v7 (o8 hx (fun p al=>ak p (h0 _ al))) D (L x G.2).1 (L x G.2).2 ap;obtain⟨n,S⟩:∃n,n=min g.length len:=⟨_,rfl⟩
 rw[<-S];have Y:=az w rfl n o_;obtain⟨y,m,z,g1,g2,g3,g4,g5⟩:=kx av 0 n o_;have au:y=[]:=by have:=(gh g4).1;simpa using this
 subst au;have ag:aA.take n=m:=by
  have:=(gh g2).1;rw[g1];simp at this⊢;rw[List.take_left' o_]
 rw[ag]at Y;simp only[j5]at g2;obtain⟨a,M,q,f1,f2,f3,f4,f5⟩:=kx k2 off n o_;have I:m.flatten.length=n*sz:=by have:=(gh g2).2;rw[this];congr 1;simp;omega
 have J:M.flatten.length=n*sz:=by have:=(gh f2).2;rw[this];congr 1;simp;omega
 have Q:cs.toList=a.flatten++M.flatten++(q.flatten++rest):=by rw[k3,f1];simp
 have W:cs.size=a.flatten.length+M.flatten.length+(q.flatten++rest).length:=by
  have:=congrArg j4 Q;simp only[hS,b5]at this;rw[this,hS]
 have K:=dq P (β.al b) (off*sz) E m.flatten 0 cs w k1 (by rw[W,f3,I,J];simp only[kw];exact lb _ _) (wy g2);simp only[kw]at K;have aS:cs.toList.take (off*sz)++m.flatten++cs.toList.drop (off*sz+m.flatten.length)=a.flatten++m.flatten++(q.flatten++rest):=by
  rw[Q,<-f3,I,<-J];exact Cd _ _ _ _
 rw[aS]at K;have an:(e8 c.argTypes o.type #[Z d,Z x]).run P w=.ok (goInt n) (w.setRow (β.al b) (a.flatten++m.flatten++(q.flatten++rest)).toArray):=by
  rw[N,j];have ai:Nat.min g.length len=n:=S.symm;have aE:∀(p:Option Addr)(n c:Nat),eL (.slice p n c)=pure n:=fun _ _ _=>rfl;simp[e8,cR t.gN,ay,ai,t.run,Y,K]
 have B:(f.take off++g.take n++f.drop (off+n)).length=f.length:=by simp;omega
 have aI:cm β H β (H.set b (.arr k aq sz (f.take off++g.take n++f.drop (off+n)))):=pB r (.inr (.inl ⟨_,_,_,_,_,rfl,rfl,B.symm⟩));have ao:∀A,aa A->(w.setRow (β.al b) (a.flatten++m.flatten++(q.flatten++rest)).toArray).heap[A]?=w.heap[A]?:=fun A af=>dp w _ A _ (fun F=>R.1 (F▸af));have hrefs:aR (aH H) (f.take off++g.take n++f.drop (off+n)):=by
  have V:=cO.1 (D.refs b _ r);refine ku (ku ?_ ?_) ?_
  ·rw[cO];exact fun v u=>V v (hZ u)
  ·rw[cO];exact fun v u=>cO.1 ax v (hZ u)
  ·rw[cO];exact fun v u=>V v (h6 u)
 have ad:=ml r (o:=.arr k aq sz (f.take off++g.take n++f.drop (off+n))) (fun _ h=>h);have aj:¬di k (f.take off++g.take n++f.drop (off+n)):=fun h=>C ⟨h.1,by have s:=h.2;rw[<-h4]at s⊢;rw[B]at s;exact s⟩;have am:=qE D r C (o':=.arr k aq sz (f.take off++g.take n++f.drop (off+n))) aj (fun _ h=>h) k1 (new:=(a.flatten++m.flatten++(q.flatten++rest)).toArray) R aI
  (.inr ⟨_,E,a++m++q,rest,dz w _ _ _ E _ k1,by
   refine Row.mono (fun _ x=>x) ao aI hrefs (lO.2 ⟨_,_,rfl,lO.2 ⟨_,_,rfl,f4,g2⟩,f5⟩),s_,by
   rw[<-k4,W];simp only[h9,hS,I,J],by rw[B];exact k5,fun F=>by rw[B];exact k6 F,k7,(fun ae=>(hk ae).elim),k8.2⟩) (aR.mono ad _ hrefs)
 refine⟨_,_,_,β,aa,X5 U hc O an,.inl rfl,?_,by simp[aw,aB,goInt],by simp[aC]⟩;simpa only[newAt,hV,aW]using am
end
section
variable{P:c8}{w:dg}{aa ah:Nat->Prop}{β:Bd}{H:Heap}
variable{o:Oper}{ρ:c6->AV}{base:Nat}
theorem zx{c:Call}{x:c6}(e:o.op=.call c){b:Builtin}(hc:c.callee=.builtin b)(d:c.args.toList=[x]):x∈o.op.operands/\c.args=#[x]:=by
 have a:c.args=#[x]:=by apply b3;simpa using d
 refine⟨?_,a⟩;rw[e];simp only[he,gg,hc,a];simp
theorem yx{T:c7}{a:AV}(h:ir P T a=true)(hs:(∃b v e i l,a=.sl b v e i l)\/a=.p .aK\/∃f c,a=.p (.bJ f c)):∃e,P.underlying T=some (.slice e):=by
 rcases hs with⟨b,v,e,i,l,rfl⟩|rfl|⟨f,c,rfl⟩<;>
 ·simp only[ir]at h
  split at h
  ·rename_i e d;exact⟨e,d⟩
  ·simp at h
theorem aKD{c:Call}{x:c6}{n:Nat}{ak:List (Nat×Obj)}{H0:Heap}(u:o.op= .call c)(hc:c.callee= .builtin .cap)(z:c.args.toList=[x])(hl:Av H0 (ρ x)=some (n,ak))(k:ir P (c.argTypes.getD 0 0) (ρ x)=true)(E:0<c.argTypes.size):
 bt P o ρ base {v:=.p (.int .i64 n),ak}/\(∀p∈ak,H0[p.1]?=some p.2):=by
 obtain⟨m,A⟩:=zx u hc z;have B:c.argTypes[0]?=some (c.argTypes.getD 0 0):=by simp[cv,E]
 generalize c.argTypes.getD 0 0=T at*
 have i:∀{H:Heap}{w:dg}{aa:Nat->Prop}{β:Bd}{d:c6->c9},(∃p l,d x= .slice p l n)->(∃e,P.underlying T=some (.slice e))->
  ∃r,(da d o).run P w=.ok (.value r) w/\aw P w aa β H (.p (.int .i64 n)) r/\aC (aH H) (.p (.int .i64 n)):=by
  rintro H w aa β d ⟨p,l,hx⟩ ⟨e,F⟩;refine⟨goInt n,?_,by simp[aw,aB,goInt],by simp[aC]⟩;simp only[da,u,resolve,hc,A];simp[invoke,builtin,gc,B,hx,cR F]
 unfold Av at hl
 split at hl
 ·rename_i hx;simp at hl;obtain⟨rfl,rfl⟩:=hl;refine⟨bt.same fun H w aa ah β d q f ak=>i ?_ (yx k (.inr (.inl hx))),s_⟩;have a:=(f x m).1;rw[hx]at a;simp only[aw,aB]at a;exact⟨_,_,a⟩
 ·rename_i g hx;simp at hl;obtain⟨rfl,rfl⟩:=hl;refine⟨bt.same fun H w aa ah β d q f ak=>i ?_ (yx k (.inr (.inr ⟨_,_,hx⟩))),s_⟩;have a:=(f x m).1;rw[hx]at a;simp only[aw,aB]at a;obtain⟨_,_,cap,_,_,_,_,_,y,_,_,_,j⟩:=a;exact⟨_,_,by rw[j,y trivial]⟩
 ·rename_i b aq ai off len hx
  split at hl
  case h_2=>simp at hl
  rename_i K J g D
  split at hl
  case isFalse=>simp at hl
  rename_i C;obtain⟨rfl,rfl,hle⟩:=C;simp at hl;obtain⟨rfl,rfl⟩:=hl;refine⟨bt.same fun H w aa ah β d q f ak=>i ?_ (yx k (.inl ⟨_,_,_,_,_,hx⟩)),by simpa using D⟩;have t:H[b]?=some (.arr .exact aq ai g):=by simpa using ak
  have a:=(f x m).1;rw[hx]at a;simp only[aw,bO,bV]at a;obtain⟨_,_,j⟩:=a.2 _ _ t;have s:¬di .exact g:=fun h=>by simp[di,AK.gr]at h
  rcases q.cS b _ t with hold|⟨cs,G,I,rest,k1,k2,k3,k4,k5,k6,_⟩
  ·exact(s hold).elim
  exact⟨_,_,by rw[j s,k6 rfl]⟩
 ·simp at hl
theorem Vo{c:Call}{x:c6}(b:o.op= .call c)(hc:c.callee= .builtin .clear)(f:c.args.toList=[x])(hx:ρ x= .p .aK)(d:ir P (c.argTypes.getD 0 0) (ρ x)=true)(j:0<c.argTypes.size):
 bt P o ρ base {v:=.p (.aE [])}:=by
 obtain⟨i,g⟩:=zx b hc f;have h:c.argTypes[0]?=some (c.argTypes.getD 0 0):=by simp[cv,j]
 generalize c.argTypes.getD 0 0=T at*;obtain⟨e,k⟩:=yx d (.inr (.inl hx));refine bt.same fun H w aa ah β n m l ak=>?_;have a:=(l x i).1;rw[hx]at a;simp only[aw,aB]at a;refine⟨.tuple #[],?_,by simp[aw,aB,bm],by simp[aC]⟩;simp only[da,b,resolve,hc,g];simp[invoke,builtin,e7,h,a,cR k]
theorem Y4{c:Call}{x:c6}{sz b aq off len:Nat}{k:AK}{d:List AV}{z:PV}(M:o.op= .call c)(hc:c.callee= .builtin .clear)(W:c.args.toList=[x])(aj:0<c.argTypes.size)(l:cV P (c.argTypes.getD 0 0)=some sz)
 (al:cK P (dW P (c.argTypes.getD 0 0))=some z)(au:bG P (aL z)=sz)(hx:ρ x=.sl b aq sz off len)(hk:k≠.frozen)(hl:off+len<=d.length)(t:¬di k d)(ar:0<len):
 bt P o ρ base {v:=.p (.aE []),ak:=[(b,.arr k aq sz d)],aG:=[(b,.arr k aq sz (d.take off++hT len (.p z)++d.drop (off+len)))]}:=by
 obtain⟨ad,X⟩:=zx M hc W;have Y:c.argTypes[0]?=some (c.argTypes.getD 0 0):=by simp[cv,aj]
 obtain⟨e,i,l⟩:=kN l;obtain⟨av,r,U,z2,z3,z4⟩:=ph al;rw[l.qA]at U;intro H w aa ah β V D ao ak _;have j:H[b]?=some (.arr k aq sz d):=ak (b,_) s_;have g:=(ao x ad).1;rw[hx]at g;simp only[aw,bO,bV]at g;obtain⟨_,_,g⟩:=g.2 k d j;have g:=g t;rcases D.cS b _ j with hold|⟨cs,u,ap,rest,k1,k2,k3,k4,k5,k6,k7,k8⟩
 ·exact(t hold).elim
 have K:¬aa (β.al b)/\¬ah (β.al b):=by
  unfold cC at k7;rw[if_neg (by simpa using hk)]at k7;exact k7
 have Q:=z3 w aa;have R:r.cells.size=sz:=by have:=(n8 Q).1;simp at this;omega
 have an:r.cells.toList.length=sz:=by simpa using R
 have E:=vx (β:=β) (H:=H) Q len;rw[an]at E;obtain⟨m,L⟩:∃m,m=hT len r.cells.toList:=⟨_,rfl⟩
 rw[<-L]at E;have F:Row P w aa β H sz (hT len (.p z)) m:=by
  exact E
 obtain⟨a,I,f,f1,f2,f3,f4,f5⟩:=kx k2 off len hl;have B:m.flatten.length=len*sz:=by have:=(gh F).2;rw[this];simp
 have C:I.flatten.length=len*sz:=by have:=(gh f2).2;rw[this];congr 1;simp;omega
 have J:cs.toList=a.flatten++I.flatten++(f.flatten++rest):=by rw[k3,f1];simp
 have O:cs.size=a.flatten.length+I.flatten.length+(f.flatten++rest).length:=by
  have:=congrArg j4 J;simp only[hS,b5]at this;rw[this,hS]
 have G:=dq P (β.al b) (off*sz) u m.flatten 0 cs w k1 (by rw[O,f3,B,C];simp only[kw];exact lb _ _) (wy F);simp only[kw]at G;have aS:cs.toList.take (off*sz)++m.flatten++cs.toList.drop (off*sz+m.flatten.length)=a.flatten++m.flatten++(f.flatten++rest):=by
  rw[J,<-f3,B,<-C];exact Cd _ _ _ _
 rw[aS]at G;have am:(e6 r.cells len).toList=m.flatten:=by
  have:=yE r.cells len (by rw[R];exact l.pos);rw[L,<-this];rfl
 have ag:(da V o).run P w=.ok (.value (.tuple #[])) (w.setRow (β.al b) (a.flatten++m.flatten++(f.flatten++rest)).toArray):=by
  obtain⟨S,rfl⟩:∃S,len=S+1:=⟨len-1,o_⟩
  simp only[da,M,resolve,hc,X];generalize c.argTypes.getD 0 0=T at*;simp only[hD,hE,hB,invoke,builtin,i0,hU,h7];have key:(e7 c.argTypes o.type #[V x]).run P w=.ok (.tuple #[]) (w.setRow (β.al b) (a.flatten++m.flatten++(f.flatten++rest)).toArray):=by
   simp[e7,Y,g,cR l.gN,tA U z2,am,G]
  rw[key];rfl
 have s:(d.take off++hT len (AV.p z)++d.drop (off+len)).length=d.length:=by simp;omega
 have aI:cm β H β (H.set b (.arr k aq sz (d.take off++hT len (.p z)++d.drop (off+len)))):=pB j (.inr (.inl ⟨_,_,_,_,_,rfl,rfl,s.symm⟩));have ai:∀q,aa q->(w.setRow (β.al b) (a.flatten++m.flatten++(f.flatten++rest)).toArray).heap[q]?=w.heap[q]?:=fun q ac=>dp w _ q _ (fun A=>K.1 (A▸ac));have hrefs:aR (aH H) (d.take off++hT len (AV.p z)++d.drop (off+len)):=by
  have N:=cO.1 (D.refs b _ j);refine ku (ku ?_ ?_) ?_
  ·rw[cO];exact fun v n=>N v (hZ n)
  ·rw[cO];intro v n;rw[List.eq_of_mem_replicate n];simp[aC]
  ·rw[cO];exact fun v n=>N v (h6 n)
 have Z:=ml j (o:=.arr k aq sz (d.take off++hT len (.p z)++d.drop (off+len))) (fun _ h=>h);have ae:¬di k (d.take off++hT len (AV.p z)++d.drop (off+len)):=fun h=>t ⟨h.1,by have y:=h.2;rw[<-h4]at y⊢;rw[s]at y;exact y⟩;have af:=qE D j t (o':=.arr k aq sz (d.take off++hT len (AV.p z)++d.drop (off+len))) ae (fun _ h=>h) k1 (new:=(a.flatten++m.flatten++(f.flatten++rest)).toArray) K aI
  (.inr ⟨_,u,a++m++f,rest,dz w _ _ _ u _ k1,by
   refine Row.mono (fun _ x=>x) ai aI hrefs (lO.2 ⟨_,_,rfl,lO.2 ⟨_,_,rfl,f4,F⟩,f5⟩),s_,by
   rw[<-k4,O];simp only[h9,hS,B,C],by rw[s];exact k5,fun A=>by rw[s];exact k6 A,k7,(fun ab=>(hk ab).elim),k8.2⟩) (aR.mono Z _ hrefs)
 refine⟨_,_,_,β,aa,ag,.inl rfl,?_,by simp[aw,aB,bm],by simp[aC]⟩;simpa only[newAt,hV,aW]using af
theorem Ch{c:Call}{x:c6}{v:AV}{ak:List (Nat×Obj)}{H0:Heap}(l:o.op= .call c)(hc:c.callee= .builtin .unsafeSliceData)(n:c.args.toList=[x])
 (h:(ρ x=.p .aK/\v=.p .dc/\ak=[])\/∃b aq ai off len k a,ρ x=.sl b aq ai off len/\H0[b]?=some (.arr k aq ai a)/\ak=[(b,.arr k aq ai a)]/\((di k a/\v=.p .dc)\/(0<len/\off+len<=a.length/\v=.b8 b aq ai off []))):
 bt P o ρ base {v,ak}:=by
 obtain⟨s,q⟩:=zx l hc n;refine bt.same fun H w aa ah β m t y r=>?_;obtain⟨d,i⟩:=y x s;have g:∀f,(fm c.argTypes o.type #[m x]).run P w=.ok f w->(da m o).run P w=.ok (.value f) w:=by
  intro f u;simp only[da,l,resolve,hc,q];simp only[hD,hE,hB,invoke,builtin,i0,hU,h7];rw[u];rfl
 rcases h with⟨hx,rfl,rfl⟩|⟨b,aq,ai,off,len,k,a,hx,C,rfl,h⟩
 ·rw[hx]at d;simp only[aw,aB]at d;exact⟨_,g _ (by rw[d];exact Lib.run_unsafeSliceData_nil w _ _ _ _),by simp[aw,aB],by simp[aC]⟩
 ·have j:H[b]?=some (.arr k aq ai a):=by simpa using r
  rw[hx]at d i;simp only[aw,bO,bV]at d;obtain⟨_,v2,v3⟩:=d.2 k a j;rcases h with⟨e,rfl⟩|⟨D,hle,rfl⟩
  ·exact⟨_,g _ (by rw[v2 e];exact Lib.run_unsafeSliceData_nil w _ _ _ _),by simp[aw,aB],by simp[aC]⟩
  ·have e:¬di k a:=fun h=>by rw[h.2]at hle;simp at hle;omega
   rcases t.cS b _ j with hold|⟨cs,z,A,rest,k1,k2,k3,k4,k5,_⟩
   ·exact(e hold).elim
   refine⟨_,g _ (by rw[v3 e];exact Lib.run_unsafeSliceData_row w _ _ _ _ _ o_),?_,by simpa only[aC]using i⟩;simp only[aw,bO,bV];refine⟨by simp[hM],β.al b,off*ai,0,s_,rfl,fun E B hl _=>⟨rfl,s_⟩⟩
theorem Yn(w:dg)(a:Addr)(n:Nat):(w.freeze a n).os=w.os/\(w.freeze a n).output=w.output:=by
 unfold hO
 first|exact⟨rfl,rfl⟩|(split<;>exact⟨rfl,rfl⟩)
theorem Yg{w':dg}(j:b7 P w aa β H ah){b:Nat}{o:Obj}(i:H[b]?=some o)(hl:o.live)(g:¬aa (β.al b)/\¬ah (β.al b))(B:∀L,o≠ .loop L)(C:w'.heap.size=w.heap.size)
 (hs:∀k,k≠β.al b->w'.heap[k]?=w.heap[k]?)(A:w'.os=w.os/\w'.output=w.output:=by exact⟨rfl,rfl⟩):bZ P ah aa w β H aa w' β (H.set b .dead):=by
 have n:b<H.length:=(hQ.1 i).1;have c:∀(x:Nat)(a:Obj),(H.set b Obj.dead)[x]?=some a->a≠.dead->H[x]?=some a:=by
  intro x a hx q
  by_cases l:b=x
  ·subst l;rw[hR n]at hx;cases hx;exact(q rfl).elim
  ·rwa [h3 l]at hx
 have aI:cm β H β (H.set b .dead):=by
  refine⟨?_,?_,?_,?_,?_⟩
  ·rintro x _ ⟨f,t,h⟩;exact⟨⟨f,t,c _ _ h s_⟩,rfl⟩
  ·rintro x _ ⟨f,t,h⟩;exact⟨⟨f,t,c _ _ h s_⟩,rfl⟩
  ·rintro x _ ⟨D,h,p⟩;exact⟨⟨D,c _ _ h (fun e=>by rw[e]at p;exact p.elim),p⟩,rfl⟩
  ·intro x aq ai k v _ h;exact⟨k,v,c _ _ h s_,kp _,Iff.rfl,fun _=>⟨rfl,rfl⟩⟩
  ·rintro x _ ⟨L,h⟩;exact⟨⟨L,c _ _ h s_⟩,rfl⟩
 have m:bZ P ah aa w β H aa w β (H.set b .dead):=
  bZ.set j n (fun _ _=>⟨rfl,rfl⟩) (fun _ x=>x) (fun _ x=>.inl x) j.bX (kp _) (fun _ _ _=>rfl) (fun h=>h.elim) aI trivial trivial (fun _ _ _ _=>trivial) (fun L s=>by rw[i]at s;cases s;exact(B L rfl).elim)
 have hx:=j.oD i hl;have y:=m.rel.L4 hx (fun x a r d u=>by
  have q:a≠.dead:=fun e=>by rw[e]at d;exact d
  have l:x=b:=j.inj x b a o (c _ _ r q) i d hl (fun hi=>g.1 (u▸hi)) u;subst l;rw[hR n]at r;cases r;exact d)
 have z:=y.shut (w':=w') (Prot0:=ah) (fun _ h=>.inl h) (R:=fun k=>k=β.al b) (fun x e=>⟨.inr e,e▸g.1⟩) C (fun k hk=>hs k hk);refine⟨fun _ h=>h,fun _ h=>.inl h,⟨o_,fun k hk=>hs k (fun e=>?_),A⟩,aI,z,m.fG,m.loop⟩;rcases hk with hk|hk
 ·exact g.2 (e▸hk)
 ·exact g.1 (e▸hk)
theorem CP:∀{d:List AV}{l:List Nat}{b:List (List c9)},bytesOf d=some l->Row P w aa β H 1 d b->b.flatten=l.map (fun c=>hN .u8 (c:Nat))/\l.length=d.length/\∀c∈l,c<256
 |[],l,b,h,a=>by
  simp[bytesOf]at h;subst h;rw[iQ]at a;subst a;simp
 |v::d,l,b,h,a=>by
  unfold bytesOf at h
  split at h
  ·rename_i e;cases e
  ·rename_i c r e;simp at e;obtain⟨rfl,rfl⟩:=e
   split at h
   case isFalse=>simp at h
   rename_i hc
   split at h
   case h_2=>simp at h
   rename_i m i;simp at h;subst h;rw[qM]at a;obtain⟨j,cs,rfl,f,k,g⟩:=a;obtain⟨i1,i2,i3⟩:=CP i g;simp only[bp,aV]at f;subst f;refine⟨by simp[i1];omega,by simp[i2],?_⟩;intro x hx;rcases hW.1 hx with rfl|hx
   ·omega
   ·exact i3 x hx
  ·simp at h
theorem VA{S D e:c7}{x:c6}{b aq off len:Nat}{k:AK}{d:List AV}{l:List Nat}(r:o.op= .convert S D x)(B:P.underlying S=some (.slice e))(y:P.underlying D=some .string)(A:P.underlying e=some (.int .u8))(hx:ρ x= .sl b aq 1 off len)
 (L:0<len)(j:off+len<=d.length)(hl:bytesOf ((d.drop off).take len)=some l):bt P o ρ base {v:=.p (.str l),ak:=[(b,.arr k aq 1 d)]}:=by
 refine bt.same fun H w aa ah β M F I ak=>?_;have q:H[b]?=some (.arr k aq 1 d):=by simpa using ak
 have f:=(I x (by simp[r,he])).1;rw[hx]at f;simp only[aw,bO,bV]at f;have n:¬di k d:=fun h=>by rw[h.2]at j;simp at j;omega
 have f:=(f.2 _ _ q).2.2 n;rcases F.cS b _ q with hold|⟨cs,J,K,rest,k1,k2,k3,k4,k5,k6,k7,k8⟩
 ·exact(n hold).elim
 obtain⟨a,m,z,g1,g2,g3,g4,g5⟩:=kx k2 off len j;obtain⟨s,t,u⟩:=CP hl g2;have E:l.length=len:=by rw[t];simp;omega
 have C:cs.toList=a.flatten++(l.map (fun c=>hN .u8 (c:Nat))++(z.flatten++rest)):=by
  rw[k3,g1];simp only[ip,ih,s]
 have G:=run_convert_bytes_arg (P:=P) w S e B A (β.al b) (off*1) len (β.cap b-off) (l.map fun c:Nat=>(c:Int)) (by simpa using E) (fun i hi=>by
  have g:i<l.length:=o_
  have:cs[off*1+i]?=some (.int .u8 (l[i]:Nat)):=by
   rw[<-b4,C,List.getElem?_append_right o_,g3,Nat.add_sub_cancel_left,iz (by simpa using g),j3,hX g];rfl
  rw[List.getD_eq_getElem?_getD,j3,hX g];simp only[hP,k1];simpa using this) D y
 refine⟨.string (strOfNums (l.map fun c:Nat=>(c:Int))),?_,?_,by simp[aC]⟩
 ·simp only[da,r,f];exact eJ G
 ·simp only[aw,aB];refine⟨_,rfl,?_⟩;rw[strOfNums_data,i6,i6]
  conv=>lhs;rw[<-ko l]
  refine j1 fun c hc=>?_;have:=u c hc;simp[l2];omega
theorem U3{c:Call}{x y:c6}{b aq n:Nat}{d:List AV}{l:List Nat}{T X:c7}(F:o.op= .call c)(hc:c.callee= .builtin .unsafeString)(N:c.args.toList=[x,y])(ab:c.argTypes=#[T,X])(hx:ρ x= .b8 b aq 1 0 [])(ad:ρ y= .p (.int .i64 n))
 (ag:0<n)(C:n<=d.length)(ai:n<=9223372036854775807)(M:P.underlying T=some (.pointer Gl.u8))(ac:P.cellsOf Gl.u8=1)(hl:bytesOf (d.take n)=some l):
 bt P o ρ base {v:=.p (.str l),ak:=[(b,.arr .bytes aq 1 d)],aG:=[(b,.dead)]}:=by
 have s:c.args=#[x,y]:=by apply b3;simpa using N
 have D:x∈o.op.operands/\y∈o.op.operands:=by
  rw[F];simp[he,gg,hc,s]
 intro H w aa ah β r G I ak _;have q:H[b]?=some (.arr .bytes aq 1 d):=by simpa using ak
 have e:=(I x D.1).1;have f:=(I y D.2).1;rw[hx]at e;rw[ad]at f;simp only[aw,bO,bV,aB]at e f;have i:¬di .bytes d:=fun h=>by rw[h.2]at C;simp at C;omega
 obtain⟨_,al,off,aj,W,E,e⟩:=e;simp[gG]at E;subst E;obtain⟨rfl,rfl⟩:=e _ _ q i;rcases G.cS b _ q with hold|⟨cs,ae,af,rest,k1,k2,k3,k4,k5,k6,k7,k8⟩
 ·exact(i hold).elim
 obtain rfl:=k8.2 rfl;have U:¬aa (β.al b)/\¬ah (β.al b):=by
  unfold cC at k7;rw[if_neg s_]at k7;exact k7
 obtain⟨a,m,z,g1,g2,g3,g4,g5⟩:=kx k2 0 n o_;have O:a=[]:=by have:=(gh g4).1;simpa using this
 subst O;rw[j5]at g2;obtain⟨J,K,L⟩:=CP hl g2;obtain⟨bs,u⟩:∃bs:List UInt8,bs=l.map l4:=⟨_,rfl⟩
 have g:bs.length=n:=by rw[u];simp[K];omega
 have t:bs.map (·.toNat)=l:=by
  rw[u,i6]
  conv=>rhs;rw[<-ko l]
  refine j1 fun c hc=>?_;have:=L c hc;simp[l2];omega
 have A:cs.toList=bs.map (fun c=>hN .u8 c.toNat)++(z.flatten++rest):=by
  rw[k3,g1];simp only[i7,ip,ih,J];congr 1;rw[<-t,i6];rfl
 have Z:=Lib.run_unsafeString_row (P:=P) w T X o.type Gl.u8 M ac (β.al b) cs.size (by simp[World.shape?,k1]) bs (fun h=>by rw[h]at g;simp at g;omega) (by
  have:=congrArg j4 A;simp only[b5,hS,kd]at this;omega) o_ (fun j v B=>by
  have V:j<bs.length:=(hQ.1 B).1;rw[kU];have:cs[j]?=some (.int .u8 v.toNat):=by
   rw[<-b4,A,iz (by simpa using V),j3,B];rfl
  simp[hP,k1,this])
 have Q:(da r o).run P w=.ok (.value (.string ⟨bs.toArray⟩)) (w.freeze ⟨β.al b,0,none⟩ bs.length):=by
  simp only[da,F,resolve,hc,s];simp only[hD,hE,hB,invoke,builtin,i0,hU,h7];have key:(e9 c.argTypes o.type #[r x,r y]).run P w=.ok (.string ⟨bs.toArray⟩) (w.freeze ⟨β.al b,0,none⟩ bs.length):=by
   rw[ab,W,f,<-g];simpa using Z
  rw[key];rfl
 have S:∀k,k≠β.al b->(w.freeze ⟨β.al b,0,none⟩ bs.length).heap[k]?=w.heap[k]?:=by
  intro k hk;unfold hO
  split
  ·rfl
  ·simp[Array.getElem?_modify,lq hk]
 have R:(w.freeze ⟨β.al b,0,none⟩ bs.length).heap.size=w.heap.size:=by
  unfold hO
  split<;>simp
 have Y:=Yg G q i U (fun _ h=>by cases h) R S (Yn _ _ _);refine⟨_,_,_,β,aa,Q,.inl rfl,?_,?_,by simp[aC]⟩
 ·simpa only[newAt,hV,aW]using Y
 ·simp only[aw,aB];exact⟨_,rfl,by simpa using t.symm⟩
theorem UZ{c:Call}{x y:c6}{T X:c7}(f:o.op= .call c)(hc:c.callee= .builtin .unsafeString)(i:c.args.toList=[x,y])(j:c.argTypes=#[T,X])(hx:ρ x= .p .dc)(k:ρ y= .p (.int .i64 0)):
 bt P o ρ base {v:=.p (.str [])}:=by
 have d:c.args=#[x,y]:=by apply b3;simpa using i
 have e:x∈o.op.operands/\y∈o.op.operands:=by
  rw[f];simp[he,gg,hc,d]
 refine bt.same fun H w aa ah β h l g ak=>?_;have a:=(g x e.1).1;have b:=(g y e.2).1;rw[hx]at a;rw[k]at b;simp only[aw,aB]at a b;refine⟨.string .empty,?_,by simp only[aw,aB];exact⟨_,rfl,rfl⟩,by simp[aC]⟩;simp only[da,f,resolve,hc,d];simp only[hD,hE,hB,invoke,builtin,i0,hU,h7];have key:(e9 c.argTypes o.type #[h x,h y]).run P w=.ok (.string .empty) w:=by
  rw[j,a,b];exact Lib.run_unsafeString_none w _ _ _ _
 rw[key];rfl
end
section
variable{P:c8}
theorem D9{c:Call}{ρ:c6->AV}{x:AV}(a:c.args.toList.map ρ=[x]):∃y,c.args.toList=[y]/\ρ y=x:=by
 match b:c.args.toList with
 |[]=>rw[b]at a;simp at a
 |[y]=>rw[b]at a;simp at a;exact⟨y,rfl,a⟩
 |_::_::_=>rw[b]at a;simp at a
theorem KZ{c:Call}(h:c.argTypes.size=2):∃T X,c.argTypes=#[T,X]:=by
 obtain⟨l,hl⟩:∃l,l=c.argTypes.toList:=⟨_,rfl⟩
 have d:l.length=2:=by rw[hl];simpa using h
 match l,d with
 |[a,b],_=>exact⟨a,b,by apply b3;simp[<-hl]⟩
theorem pf(ag:db->Bool):ma P ag:=by
 intro o ρ H K _ h;unfold fC at h;have plain:∀{e:aU},K e->bt P o ρ H.length e->e.ak=[]->e.aG=[]->∃e,K e/\bt P o ρ H.length e/\(∀p∈e.ak,H[p.1]?=some p.2)/\(∀p∈e.aG,p.1<H.length/\p.2≠.hole):=by
  intro e A B C G;exact⟨e,A,B,by simp[C],by simp[G]⟩
 cases q:o.op<;>simp only[q]at h
 case move x=>exact plain h (Sr (.inl q)) rfl rfl
 case assign x=>exact plain h (Sr (.inr q)) rfl rfl
 case pick c a b=>
  split at h
  ·rename_i t hc;exact plain h (aKJ q hc) rfl rfl
  ·exact h.elim
 case alloc T=>
  split at h
  ·rename_i z M;exact plain h.2.2.2 (Y6 q M h.2.2.1) rfl rfl
  ·exact h.elim
 case box T x=>exact plain h.2.2.2 (aKC q h.2.1 h.2.2.1) rfl rfl
 case build T parts=>
  split at h
  ·rename_i u z hk M
   split at h
   ·rename_i l hl;obtain⟨A,B,C⟩:=h;exact plain C (Y5 q hk M hl A B) rfl rfl
   ·exact h.elim
  ·exact h.elim
 case buildSlice T n parts=>
  split at h
  ·rename_i sz z U M;obtain⟨A,B,C,G⟩:=h;exact plain G (Vp q U M A B C) rfl rfl
  ·exact h.elim
 case load T a=>exact aKH q h
 case store T a x=>exact ZG q h
 case binOp b T x y aF=>
  obtain⟨v,A,B⟩:=aKB (base:=H.length) q h;exact⟨_,A,B,nU,s_⟩
 case unOp u T x=>
  split at h
  ·rename_i b hx;exact plain h (FK q hx (.inl ⟨rfl,_,rfl,rfl⟩)) rfl rfl
  ·rename_i k n hx;exact plain h (FK q hx (.inr (.inl ⟨rfl,_,_,rfl,rfl⟩))) rfl rfl
  ·rename_i k n hx;exact plain h (FK q hx (.inr (.inr ⟨rfl,_,_,rfl,rfl⟩))) rfl rfl
  ·exact h.elim
 case convert S D x=>
  split at h
  ·rename_i d k k0 n aa Z hx;exact plain h (WS q ⟨_,aa⟩ Z hx) rfl rfl
  ·rename_i d s aa Z hx;exact plain h (WR q ⟨_,aa⟩ Z hx) rfl rfl
  ·rename_i e b aq ai off len aa Z hx
   split at h
   case h_2=>exact h.elim
   rename_i k ah ae R w;obtain⟨rfl,rfl,rfl,U,aj,hle,h⟩:=h
   split at h
   case h_2=>exact h.elim
   rename_i l hl;exact⟨_,h,VA q aa Z U hx aj hle hl,by simpa using w,s_⟩
  ·exact h.elim
 case extract t i=>
  split at h
  ·rename_i vs ao
   split at h
   ·rename_i v ap;exact plain h (KL q (.inr ⟨_,ao,rfl⟩) (by simp[ap])) rfl rfl
   ·exact h.elim
  ·rename_i vs ao
   split at h
   ·rename_i v ap;exact plain h (KL q (.inl ao) ap) rfl rfl
   ·exact h.elim
  ·exact h.elim
 case fieldAddr T a f=>
  obtain⟨e,A,B,C,G⟩:=Vz (base:=H.length) q h;exact plain A B C G
 case indexAddr T x i=>
  obtain⟨e,A,B,C,G⟩:=Vy (base:=H.length) q h;exact⟨e,A,B,C,by simp[G]⟩
 case field T x f=>
  split at h
  ·rename_i u fs t hk az hx;obtain⟨A,h⟩:=h
   split at h
   ·rename_i g F an al;exact plain h.2 (Y3 q hk az hx A an al h.1) rfl rfl
   ·exact h.elim
  ·exact h.elim
 case index T x i=>
  split at h
  ·rename_i s k n hx hi;obtain⟨A,B,C,G⟩:=h;exact plain G (Ww q hx hi A B C) rfl rfl
  ·rename_i u R k n hx hi
   split at h
   ·rename_i u' m F g I al an;obtain⟨rfl,aj,ab,hk,h⟩:=h;exact plain h (Wx q I hx hi aj ab al an hk) rfl rfl
   ·exact h.elim
  ·exact h.elim
 case makeFunc fn fi ca=>
  cases fn<;>simp only at h
  case func f=>
   obtain⟨m1,m2,m3⟩:=Wv (ρ:=ρ) (base:=H.length) q
   split at h
   ·split at h
    ·rename_i a b ak aG j am;obtain⟨q1,ac,aE⟩:=m3 H a b ak aG j am;exact⟨_,h,q1,ac,aE⟩
    ·exact h.elim
   ·split at h
    ·rename_i a b j am;exact plain h (m1 a b j am) rfl rfl
    ·exact plain h m2 rfl rfl
 case makeSlice T l c=>
  split at h
  ·rename_i sz z aH c' U M hl hc;obtain⟨A,B,rfl,G,N⟩:=h;exact plain N (Vx q U M hl hc A B G) rfl rfl
  ·exact h.elim
 case slice T x lo hi aA=>
  cases aA with
  |none=>
   obtain⟨e,A,B,C,G⟩:=Y1 (base:=H.length) q h;exact⟨e,A,B,C,by simp[G]⟩
  |some m=>
   obtain⟨e,A,B,C,G⟩:=XT (base:=H.length) q h;exact⟨e,A,B,C,by simp[G]⟩
 case makeMap T r=>
  cases r<;>simp only at h;exact plain h (WQ q) rfl rfl
 case lookup T x i ok=>
  split at h
  case h_2=>exact h.elim
  rename_i ad E key I hi
  split at h
  case h_2=>exact h.elim
  rename_i z M;obtain⟨hk,h⟩:=h
  split at h
  ·rename_i hx;exact plain h (vF (r:=none) (es:=[]) q I M hi hk rfl (.inl ⟨hx,rfl⟩)) rfl rfl
  ·rename_i R hx
   split at h
   ·rename_i v hl;exact plain h (vF (r:=some v) q I M hi hk hl (.inr (.inl hx))) rfl rfl
   ·rename_i hl;exact plain h (vF (r:=none) q I M hi hk hl (.inr (.inl hx))) rfl rfl
   ·exact h.elim
  ·rename_i b hx
   split at h
   case h_3=>exact h.elim
   ·rename_i fz R w
    split at h
    ·rename_i v hl;exact⟨_,h,vF (r:=some v) q I M hi hk hl (.inr (.inr ⟨b,fz,hx,s_⟩)),by simpa using w,s_⟩
    ·rename_i hl;exact⟨_,h,vF (r:=none) q I M hi hk hl (.inr (.inr ⟨b,fz,hx,s_⟩)),by simpa using w,s_⟩
    ·exact h.elim
   ·rename_i ks vs w;obtain⟨O,h⟩:=h
    split at h
    ·rename_i v hl;exact⟨_,h,Hj (r:=some v) q I M hi hk O hl hx,by simpa using w,s_⟩
    ·rename_i hl;exact⟨_,h,Hj (r:=none) q I M hi hk O hl hx,by simpa using w,s_⟩
    ·exact h.elim
  ·exact h.elim
 case mapUpdate T m k x=>
  split at h
  case h_3=>exact h.elim
  ·rename_i ad E b key v I V hk hx;obtain⟨hf,h⟩:=h
   split at h
   case h_3=>exact h.elim
   ·rename_i R w
    split at h
    case h_2=>exact h.elim
    rename_i r hl;exact⟨_,h,JD (.inl q) I V hk hx hf hl,by simpa using w,by simpa using(hQ.1 w).1⟩
   ·rename_i ks vs w;obtain⟨ar,au,j,O,hl,h⟩:=xP h;rw[<-hx]at h;exact⟨_,h,xY (.inl q) I V hk hf j O hl,by simpa using w,by simpa using(hQ.1 w).1⟩
  ·rename_i ad E b key I V hk _;obtain⟨hf,h⟩:=h
   split at h
   case h_2=>exact h.elim
   rename_i aD w;obtain⟨ar,au,j,O,hl,h⟩:=xP h;exact⟨_,h,xY (.inl q) I V hk hf j O hl,by simpa using w,by simpa using(hQ.1 w).1⟩
 case insert T m k x=>
  split at h
  case h_3=>exact h.elim
  ·rename_i ad E b key v I V hk hx;obtain⟨hf,h⟩:=h
   split at h
   case h_3=>exact h.elim
   ·rename_i R w
    split at h
    case h_2=>exact h.elim
    rename_i r hl;exact⟨_,h,JD (.inr q) I V hk hx hf hl,by simpa using w,by simpa using(hQ.1 w).1⟩
   ·rename_i ks vs w;obtain⟨ar,au,j,O,hl,h⟩:=xP h;rw[<-hx]at h;exact⟨_,h,xY (.inr q) I V hk hf j O hl,by simpa using w,by simpa using(hQ.1 w).1⟩
  ·rename_i ad E b key I V hk _;obtain⟨hf,h⟩:=h
   split at h
   case h_2=>exact h.elim
   rename_i aD w;obtain⟨ar,au,j,O,hl,h⟩:=xP h;exact⟨_,h,xY (.inr q) I V hk hf j O hl,by simpa using w,by simpa using(hQ.1 w).1⟩
 case range T x=>
  split at h
  ·rename_i s hx;exact plain h.2 (Y2 q hx h.1) rfl rfl
  ·exact h.elim
 case next it isStr=>
  cases isStr<;>simp only at h
  split at h
  case h_2=>exact h.elim
  rename_i b hx
  split at h
  case h_2=>exact h.elim
  rename_i s pos w;obtain⟨aB,aC⟩:=aKI (P:=P) (base:=H.length) (s:=s) (pos:=pos) q hx
  split at h
  ·rename_i W;exact⟨_,h,aB W,by simpa using w,by simpa using(hQ.1 w).1⟩
  ·rename_i W;exact⟨_,h,aC W,by simpa using w,s_⟩
 case nilCheck x=>
  split at h
  ·rename_i b p hx;exact plain h (Cf q (.inl ⟨b,p,hx⟩)) rfl rfl
  ·rename_i b v e i p hx;exact plain h (Cf q (.inr (.inl ⟨b,v,e,i,p,hx⟩))) rfl rfl
  ·rename_i t hx;exact plain h (Cf q (.inr (.inr ⟨t,hx⟩))) rfl rfl
  ·exact h.elim
 case call c=>
  split at h
  case h_2=>exact h.elim
  rename_i b hc
  split at h
  ·rename_i x j
   split at h
   case h_2=>exact h.elim
   rename_i n ak hl;obtain⟨A,B,C⟩:=h;obtain⟨y,L,rfl⟩:∃y,c.args.toList=[y]/\ρ y=x:=by
    match J:c.args.toList with
    |[]=>rw[J]at j;simp at j
    |[y]=>rw[J]at j;simp at j;exact⟨y,rfl,j⟩
    |_::_::_=>rw[J]at j;simp at j
   obtain⟨q1,ac⟩:=aKG (P:=P) (base:=H.length) q hc L hl A B;exact⟨_,C,q1,ac,s_⟩
  ·rename_i s x j;obtain⟨y,z,L,rfl,rfl⟩:∃y z,c.args.toList=[y,z]/\ρ y=s/\ρ z=x:=by
    match J:c.args.toList with
    |[]=>rw[J]at j;simp at j
    |[y]=>rw[J]at j;simp at j
    |[y,z]=>rw[J]at j;simp at j;exact⟨y,z,rfl,j.1,j.2⟩
    |_::_::_::_=>rw[J]at j;simp at j
   exact XV q hc L h.1 h.2
  ·rename_i k a r j
   split at h
   ·rename_i n ab;exact plain h (La (isMax:=false) q hc j ab) rfl rfl
   ·exact h.elim
  ·rename_i k a r j
   split at h
   ·rename_i n ab;exact plain h (La (isMax:=true) q hc j ab) rfl rfl
   ·exact h.elim
  ·rename_i d x j;obtain⟨y,z,L,ax,rfl⟩:∃y z,c.args.toList=[y,z]/\ρ y=d/\ρ z=x:=by
    match J:c.args.toList with
    |[]=>rw[J]at j;simp at j
    |[y]=>rw[J]at j;simp at j
    |[y,z]=>rw[J]at j;simp at j;exact⟨y,z,rfl,j.1,j.2⟩
    |_::_::_::_=>rw[J]at j;simp at j
   split at h
   case h_2=>exact h.elim
   rename_i sz b aq ai off len aI U hx;obtain⟨rfl,A,B,h⟩:=h
   split at h
   case h_2=>exact h.elim
   rename_i k ah ae R w;obtain⟨rfl,rfl,C,G,N,Y⟩:=h;refine⟨_,Y,aKE q hc L B U ax hx A C G N,?_,by simpa using(hQ.1 w).1⟩;intro p W;rcases hW.1 W with rfl|W
   ·exact w
   ·exact nU p W
  ·rename_i x j;obtain⟨y,L,rfl⟩:=D9 j
   split at h
   case h_2=>exact h.elim
   rename_i n ak hl;obtain⟨A,B,C⟩:=h;obtain⟨q1,ac⟩:=aKD (P:=P) (base:=H.length) q hc L hl A B;exact⟨_,C,q1,ac,s_⟩
  ·rename_i x j;obtain⟨y,L,Q⟩:=D9 j
   split at h
   ·rw[<-Q]at h;exact plain h.2.2 (Vo q hc L Q h.1 h.2.1) rfl rfl
   ·split at h
    ·rename_i b aq ai off len sz z k ah ae R U M w;obtain⟨rfl,rfl,rfl,A,B,C,G,N,Y,aw⟩:=h;exact⟨_,aw,Y4 q hc L N U M A Q B C G Y,by simpa using w,by simpa using(hQ.1 w).1⟩
    ·exact h.elim
   ·exact h.elim
  ·rename_i x j;obtain⟨y,L,Q⟩:=D9 j
   split at h
   ·exact plain h (Ch (H0:=H) q hc L (.inl ⟨Q,rfl,rfl⟩)) rfl rfl
   ·split at h
    ·rename_i b aq ai off len k ah ae R w;obtain⟨rfl,rfl,h⟩:=h;rcases h with⟨A,B,C⟩|⟨A,B,C⟩
     ·exact⟨_,C,Ch q hc L (.inr ⟨_,_,_,_,_,_,_,Q,w,rfl,.inl ⟨⟨A,B⟩,rfl⟩⟩),by simpa using w,s_⟩
     ·exact⟨_,C,Ch q hc L (.inr ⟨_,_,_,_,_,_,_,Q,w,rfl,.inr ⟨A,B,rfl⟩⟩),by simpa using w,s_⟩
    ·exact h.elim
   ·exact h.elim
  ·rename_i x n j;obtain⟨y,z,L,Q,av⟩:∃y z,c.args.toList=[y,z]/\ρ y=x/\ρ z=.p (.int .i64 n):=by
    match J:c.args.toList with
    |[]=>rw[J]at j;simp at j
    |[y]=>rw[J]at j;simp at j
    |[y,z]=>rw[J]at j;simp at j;exact⟨y,z,rfl,j.1,j.2⟩
    |_::_::_::_=>rw[J]at j;simp at j
   split at h
   ·obtain⟨rfl,A,B⟩:=h;obtain⟨T,X,af⟩:=KZ A;exact plain B (UZ q hc L af Q av) rfl rfl
   ·split at h
    ·rename_i b aq ai i ah ae R w;obtain⟨rfl,rfl,rfl,rfl,A,B,C,G,N,Y,h⟩:=h;obtain⟨T,X,af⟩:=KZ G
     split at h
     ·rename_i l hl;obtain⟨m,rfl⟩:=Int.eq_ofNat_of_zero_le (by omega:0<=n);simp only[Int.toNat_natCast]at B hl;have I:P.underlying T=some (.pointer Gl.u8):=by
       rw[af]at N;simp only[ptrTo]at N
       split at N
       ·rename_i e ay;simp at N;rw[<-N];exact ay
       ·simp at N
      exact⟨_,h,U3 q hc L af Q av o_ B o_ I Y hl,by simpa using w,by simpa using(hQ.1 w).1⟩
     ·exact h.elim
    ·exact h.elim
   ·exact h.elim
  ·exact h.elim
end
section
variable{P:c8}{ag:db->Bool}{n:Nat}
theorem LP{o o':Obj}(h:mE o=some o'):mE o'=some o':=by
 unfold mE at h
 split at h
 ·simp at h;subst h;rfl
 ·rename_i k aq ai a
  split at h
  ·simp at h
  ·split at h
   ·rename_i l hl;simp at h;subst h;simp[mE,AK.gr,hl]
   ·simp at h
 ·simp at h;subst h;rfl
 ·simp at h
theorem ax5{w:dg}{aa ah:Nat->Prop}{β:Bd}{H:Heap}(d:b7 P w aa β H ah){b:Nat}{o o':Obj}(c:H[b]?=some o)(hf:mE o=some o'):
 ∃aD,bZ P ah aa w β H aD w β (H.set b o')/\aD (β.al b):=by
 unfold mE at hf
 split at hf
 ·rename_i fz t;simp at hf;subst hf;obtain⟨cs,T,g,i,j,m⟩:=d.cS b _ c;have aI:cm β H β (H.set b (.box true (.p t))):=qG c (.inl ⟨_,_,_,rfl,rfl⟩);exact qK d c trivial (o':=.box true (.p t)) trivial (fun _ h=>h) (fun _ h=>by cases h) aI j.rI
   (fun aD hi l=>⟨cs,T,g,bp.mono hi (fun _ _=>rfl) aI _ _ (by simp[aC]) i,l,fun _=>trivial,m.2⟩) (by simp[Obj.refs,aC])
 ·rename_i k aq ai f
  split at hf
  ·simp at hf
  ·rename_i q
   split at hf
   case h_2=>simp at hf
   rename_i C z;simp at hf;subst hf;have r:=mi z;rcases d.cS b _ c with hold|⟨cs,T,u,rest,g,i,j,m,x,A,y,B⟩
   ·exact(q hold).elim
   have s:¬di .frozen f:=fun h=>by cases h.1
   have aI:cm β H β (H.set b (.arr .frozen aq ai f)):=qG c (.inr (.inl ⟨_,_,_,_,_,rfl,rfl,q,s⟩));exact qK d c q (o':=.arr .frozen aq ai f) s (fun _ h=>h) (fun _ h=>by cases h) aI y.rI
    (fun aD hi l=>.inr ⟨cs,T,u,rest,g,bL.mono hi (fun _ _=>rfl) aI _ _ _ (d.refs b _ c) i,j,m,x,(fun h=>by cases h),l,fun _ e n=>(by rw[r]at n;simp at n;obtain⟨a,_,rfl⟩:=n;trivial),fun h=>by cases h⟩)
    (by rw[r];exact jw _ _)
 ·rename_i fz f;simp at hf;subst hf;obtain⟨v,clock,g,i,j⟩:=d.cS b _ c;have aI:cm β H β (H.set b (.map true f)):=qG c (.inr (.inr ⟨_,_,_,rfl,rfl⟩));exact qK d c trivial (o':=.map true f) trivial (fun _ h=>h) (fun _ h=>by cases h) aI j.rI
   (fun aD hi l=>⟨v,clock,g,cF.mono hi (fun _ _=>rfl) _ _ i,l⟩) trivial
 ·simp at hf
theorem Ke{w:dg}{ah:Nat->Prop}{β:Bd}{H0:Heap}:∀(bs:List Nat){ak aG:List (Nat×Obj)}{H:Heap}{aa:Nat->Prop},lS H0 bs=some (ak,aG)->b7 P w aa β H ah->
 (∀p∈ak,∃c,H[p.1]?=some c/\mE c=mE p.2)->∃aD,bZ P ah aa w β H aD w β (aW H aG)/\∀b∈bs,aD (β.al b)
 |[],ak,aG,H,aa,h,a,_=>by
  simp[lS]at h;obtain⟨rfl,rfl⟩:=h;exact⟨aa,bZ.refl a,s_⟩
 |b::bs,ak,aG,H,aa,h,a,hc=>by
  simp only[lS]at h
  split at h
  case h_2=>simp at h
  rename_i o q s r g
  split at h
  case h_2=>simp at h
  rename_i o' hf;simp at h;obtain⟨rfl,rfl⟩:=h;obtain⟨c,g1,g2⟩:=hc (b,o) s_;simp only at g1 g2;rw[hf]at g2;obtain⟨n,e,l⟩:=ax5 a g1 g2;have i:b<H.length:=(hQ.1 g1).1;obtain⟨f,q1,m⟩:=Ke bs g e.rel (by
   intro p j;obtain⟨k,k1,k2⟩:=hc p (by simp[j])
   by_cases d:b=p.1
   ·rw[<-d]at k1⊢;rw[g1]at k1;cases k1;refine⟨o',by rw[hR i],?_⟩;rw[<-k2,g2,LP g2]
   ·exact⟨k,by rw[h3 d];exact k1,k2⟩)
  refine⟨f,by simpa only[aW]using e.trans q1,?_⟩;intro x hx;rcases hW.1 hx with rfl|hx
  ·exact q1.bX _ l
  ·exact m x hx
theorem LQ{H0:Heap}:∀(bs:List Nat){ak aG:List (Nat×Obj)},lS H0 bs=some (ak,aG)->(∀p∈ak,H0[p.1]?=some p.2)/\(∀p∈aG,p.1<H0.length/\p.2≠.hole)/\ak.map (·.1)=bs
 |[],ak,aG,h=>by
  simp[lS]at h;obtain⟨rfl,rfl⟩:=h;simp
 |b::bs,ak,aG,h=>by
  simp only[lS]at h
  split at h
  case h_2=>simp at h
  rename_i o f g d e
  split at h
  case h_2=>simp at h
  rename_i o' hf;simp at h;obtain⟨rfl,rfl⟩:=h;obtain⟨i1,i2,i3⟩:=LQ bs e;refine⟨?_,?_,by simp[i3]⟩
  ·intro p a;rcases hW.1 a with rfl|a
   ·exact d
   ·exact i1 p a
  ·intro p a;rcases hW.1 a with rfl|a
   ·refine⟨(hQ.1 d).1,fun c=>?_⟩;simp only at c;have:=LP hf;rw[c]at this;simp[mE]at this
   ·exact i2 p a
theorem Zu{w:dg}{aa aD ah:Nat->Prop}{β:Bd}{H0 H:Heap}{a:AV}{pv:PV}{bs:List Nat}{v:c9}(d:mL H0 a=some (pv,bs))(ak:∀b∈bs,H[b]?=H0[b]?)(n:b7 P w aa β H ah)(e:aw P w aa β H a v)
 (hi:∀k,aa k->aD k)(r:∀b∈bs,aD (β.al b)):aB P w aD pv v:=by
 cases a with
 |p t=>
  simp[mL]at d;obtain⟨rfl,rfl⟩:=d;simp only[aw]at e;exact aB.mono hi (fun _ _=>rfl) _ _ e
 |sl b aq ai off len=>
  simp only[mL]at d
  split at d
  case h_2=>simp at d
  rename_i k R M g l
  split at d
  case isFalse=>simp at d
  rename_i F;obtain⟨rfl,rfl,hl⟩:=F
  split at d
  ·simp at d
  ·rename_i y
   split at d
   case h_2=>simp at d
   rename_i z I;simp at d;obtain⟨rfl,rfl⟩:=d;have x:=mi I;have f:H[b]?=some (.arr k aq ai g):=by rw[ak b s_];exact l
   have j:=r b s_;simp only[aw,bO,bV]at e;obtain⟨v1,v2,v3⟩:=e.2 k g f;rcases n.cS b _ f with hold|⟨cs,T,A,rest,i,h,q,D,N,E,O,Q⟩
   ·exact(y hold).elim
   rw[v3 y];have J:Row P w aD β H ai g A:=bL.mono hi (fun _ _=>rfl) (cm.refl _ _) _ _ _ (n.refs b _ f) h;obtain⟨a,m,c,e1,e2,e3,e4,e5⟩:=kx J off len v1;rw[x,Cb,mj]at e2;have u:((z.drop off).take len).length=len:=by
    have:g.length=z.length:=by rw[x];simp
    simp;omega
   simp only[aB];refine⟨β.al b,off*ai,β.cap b-off,ai,m,e2,fun _=>j,?_,?_,?_,none,.inl rfl,?_⟩
   ·rw[<-e3];exact mc i (post:=c.flatten++rest) (by rw[q,e1];simp)
   ·intro hf;simp at hf;rw[u,E hf.1];omega
   ·rw[u];omega
   ·rw[u]
 |ptr b path=>
  simp only[mL]at d
  split at d
  case h_2=>simp at d
  rename_i fz t l
  split at d
  case h_2=>simp at d
  rename_i s hs;simp at d;obtain⟨rfl,rfl⟩:=d;have f:H[b]?=some (.box fz (.p t)):=by rw[ak b s_];exact l
  have j:=r b s_;simp only[aw,bO,bV]at e;obtain⟨_,L,K,o,rfl,G,e⟩:=e;obtain⟨rfl,rfl⟩:=e (.inl ⟨fz,_,f⟩);obtain⟨cs,T,i,h,q,D⟩:=n.cS b _ f;have C:aV P w aD t cs.toList:=by simp only[bp]at h;exact aV.mono hi (fun _ _=>rfl) _ _ h
  obtain⟨pre,xs,post,e1,e2,e3⟩:=zd C hs G;simp only[aB];refine⟨β.al b,K,xs,e3,j,?_,rfl⟩;rw[<-e2];exact mc i e1
 |map b=>
  simp only[mL]at d
  split at d
  case h_2=>simp at d
  rename_i fz g l;simp at d;obtain⟨rfl,rfl⟩:=d;have f:H[b]?=some (.map fz g):=by rw[ak b s_];exact l
  have j:=r b s_;simp only[aw,bO,bV]at e;have e:=e.2.1 ⟨_,f,trivial⟩;obtain⟨B,clock,i,h,q⟩:=n.cS b _ f;simp only[aB];exact⟨β.al b,B,clock,j,i,cF.mono hi (fun _ _=>rfl) _ _ h,e⟩
 |b8=>simp[mL]at d
 |func=>simp[mL]at d
 |st=>simp[mL]at d
 |aE=>simp[mL]at d
theorem Ly{w:dg}{aa aD ah:Nat->Prop}{β:Bd}{H0 H:Heap}:∀{l:List AV}{vs:List PV}{bs:List Nat}{d:List c9},oL H0 l=some (vs,bs)->(∀b∈bs,H[b]?=H0[b]?)->b7 P w aa β H ah->br P w aa β H l d->
 (∀k,aa k->aD k)->(∀b∈bs,aD (β.al b))->bm P w aD vs d
 |[],vs,bs,d,h,_,_,c,_,_=>by
  simp[oL]at h;obtain⟨rfl,rfl⟩:=h;simp only[br]at c;simpa[bm]using c
 |a::l,vs,bs,d,h,ak,f,c,hi,e=>by
  simp only[oL]at h
  split at h
  case h_2=>simp at h
  rename_i v m o n g i;simp at h;obtain⟨rfl,rfl⟩:=h;simp only[br]at c;obtain⟨y,j,rfl,k1,k2⟩:=c;simp only[bm];exact⟨y,j,rfl,Zu g (fun b hx=>ak b (by simp[hx])) f k1 hi (fun b hx=>e b (by simp[hx])),Ly i (fun b hx=>ak b (by simp[hx])) f k2 hi (fun b hx=>e b (by simp[hx]))⟩
def Act(P:c8)(n:Nat)(o:Oper)(s:St)(e:aU):Prop:=
 ∀(fr:ed)(k:List Item)(cs:List ed)(a:Array Oper)(i:Nat)(r:List Nat)(b:List ei)(ah aa:Nat->Prop)(β:Bd)(s':St)(t:Array c9)(w:dg),
  a[i]?=some o->hv o (yielded a t)=true->jB n o=true->cU P n ah aa β s' t w->(∀x∈o.op.operands,ev s'.env x=ev s.env x)->
  (∀p∈e.ak,s'.heap[p.1]?=some p.2)->(∀j,j<e.aS.length->s'.heap[s.heap.length+j]?=some .hole)->
  ∃aD aJ c w',et P (lone (bA fr t b (.inRegion a (i::r)::k)) cs w) (lone (bA fr c b (.inRegion a r::k)) cs w')/\
   cU P n ah aD aJ ⟨put o.dst e.v s'.env,aW s'.heap (e.aG++newAt s.heap.length e.aS)⟩ c w'/\∀N,dM N ah aa w β s'.heap ah aD w' aJ (aW s'.heap (e.aG++newAt s.heap.length e.aS))
theorem V4{o:Oper}{K:aU->Prop}{s:St}(h:jT P ag o s K)(c:Call):o.op≠.defer c:=by
 intro hc;unfold jT at h;rw[hc]at h;simp[fC,hc]at h
theorem PK{e e':Env}{l:List c6}(h:∀x∈l,ev e' x=ev e x):l.map (ev e')=l.map (ev e):=j1 h
theorem MQ{o:Oper}{f:c6}{H:Array c6}{al:Array c7}{g:db}{fi ca:List AV}{K:aU->Prop}{s:St}
 (W:o.op=.call {callee:=.value f,args:=H,argTypes:=al})
 (hf:(ev s.env f=.func g fi ca)\/(∃a b,ev s.env f=.p (.func g a b)/\fi=a.map .p/\ca=b.map .p))
 (h:iw P g (fi++H.toList.map (ev s.env)++ca) s.heap K):
 ∃e,K e/\(∀p∈e.ak,s.heap[p.1]?=some p.2)/\(∀p∈e.aG,p.1<s.heap.length/\p.2≠.hole)/\Act P n o s e:=by
 have Q:∀c,o.op≠.defer c:=fun c hc=>by rw[W]at hc;cases hc
 have ac:f∈o.op.operands/\∀x∈H.toList,x∈o.op.operands:=by
  rw[W];simp[he,gg];exact fun x hx=>.inr hx
 have M:∀{ah aa:Nat->Prop}{β:Bd}{s':St}{t:Array c9}{w:dg},cU P n ah aa β s' t w->(∀x∈o.op.operands,ev s'.env x=ev s.env x)->
  ∃m:List c9,br P w aa β s'.heap (fi++H.toList.map (ev s.env)++ca) m/\aR (aH s'.heap) (fi++H.toList.map (ev s.env)++ca)/\(da (fO t) o).run P w=(callFunc g m.toArray).run P w:=by
  intro ah aa β s' t w d A;have I:=oG d f;rw[A f ac.1]at I;obtain⟨G,F,av,au,aq,aE,az⟩:∃G F:List c9,fO t f=.func (.func g) G.toArray F.toArray/\br P w aa β s'.heap fi G/\br P w aa β s'.heap ca F/\aR (aH s'.heap) fi/\aR (aH s'.heap) ca:=by
   rcases hf with hf|⟨a,b,hf,rfl,rfl⟩
   ·rw[hf]at I;simp only[aw,aC]at I;obtain⟨⟨G,F,y,z,D⟩,S,ao⟩:=I;exact⟨G,F,D,y,z,S,ao⟩
   ·rw[hf]at I;simp only[aw,aB]at I;obtain⟨⟨G,F,y,z,D⟩,_⟩:=I;exact⟨G,F,D,j0.2 y,j0.2 z,jw _ _,jw _ _⟩
  obtain⟨Y,Z⟩:=vK d H.toList;rw[PK (fun x hx=>A x (ac.2 x hx))]at Y Z;refine⟨G++H.toList.map (fO t)++F,pj (pj au Y) aq,ku (ku aE Z) az,?_⟩;simp only[da,W,resolve,av,Deferred.ofValue,hD,hE,hB,invoke];congr 2;simp
 have ai:∀(fr:ed)(k:List Item)(cs:List ed)(l:Array Oper)(i:Nat)(r:List Nat)(u:List ei)(ah aa E:Nat->Prop)(β:Bd)(s':St)(t:Array c9)(w:dg)(H1:Heap)(m:List c9)(vs:List PV)(v:PV),
  l[i]?=some o->hv o (yielded l t)=true->jB n o=true->cU P n ah aa β s' t w->(da (fO t) o).run P w=(callFunc g m.toArray).run P w->
  bZ P ah aa w β s'.heap E w β H1->bm P w E vs m->aA P g vs v->
  ∃aD aJ aj w',et P (lone (bA fr t u (.inRegion l (i::r)::k)) cs w) (lone (bA fr aj u (.inRegion l r::k)) cs w')/\
   cU P n ah aD aJ ⟨put o.dst (.p v) s'.env,H1⟩ aj w'/\∀N,dM N ah aa w β s'.heap ah aD w' aJ H1:=by
  intro fr k cs l i r u ah aa E β s' t w H1 m vs v q C B d O j af L;rcases L with⟨ar,L⟩|L
  ·rw[ar]at O;obtain⟨e,w',am,⟨R,aD,U,g1,g2,g3,g4,g5,an,g6⟩,aI,ax,V⟩:=L w E _ j.rel.bX j.rel.jD af (bA fr t u (.inRegion l (i::r)::k)::cs);subst U;have ae:=j.trans (j.rel.later g1 g2 g3 g4 g5 an);refine⟨aD,β,_,w',?_,d.put B ae (by simpa[aw]using g6) (by simp[aC]),fun _=>ae.fw⟩;rw[<-nW q];exact(hG (vA q C Q O)).trans (hH aI (.one (ej V)))
  ·obtain⟨R,y,z⟩:=L w E _ af;rw[y]at O;exact⟨E,β,_,w,.one (s9 q C Q O (.inl rfl)),d.put B j (by simpa[aw]using z) (by simp[aC]),fun _=>j.fw⟩
 rcases h with⟨vs,v,y,z,D⟩|⟨vs,bs,ak,aG,v,y,z,D,S⟩|⟨e,X,ad,T⟩|⟨ak,v,ap,ay,T⟩
 ·refine⟨_,D,s_,s_,?_⟩;intro fr k cs l i r u ah aa β s' t w q C B d A _ _;obtain⟨m,c1,c2,c3⟩:=M d A;rw[y]at c1;simp only[newAt,hV,aW];exact ai fr k cs l i r u ah aa aa β s' t w s'.heap m vs v q C B d c3 (bZ.refl d.heap) (j0.1 c1) z
 ·obtain⟨i1,i2,i3⟩:=LQ bs z;refine⟨_,S,i1,i2,?_⟩;intro fr k cs l i r u ah aa β s' t w q C B d A J _;obtain⟨m,c1,c2,c3⟩:=M d A;obtain⟨E,ag,aF⟩:=Ke bs z d.heap (fun p j=>⟨p.2,J p j,rfl⟩);simp only[newAt,hV];refine ai fr k cs l i r u ah aa E β s' t w _ m vs v q C B d c3 ag (Ly y ?_ d.heap c1 ag.bX aF) D;intro b ab;rw[<-i3]at ab;obtain⟨p,j,rfl⟩:=km.1 ab;rw[J p j,i1 p j]
 ·refine⟨_,T,ad.1,ad.2,?_⟩;intro fr k cs l i r u ah aa β s' t w q C B d A J aS;obtain⟨m,c1,c2,c3⟩:=M d A;rw[X.1]at c3;obtain⟨x,w',am,⟨R,aJ,aD,U,g1,g2,g3⟩,aI,ax,V⟩:=X.2 s'.heap w aa ah β _ d.heap c1 c2 J aS (bA fr t u (.inRegion l (i::r)::k)::cs);subst U;refine⟨aD,aJ,_,w',?_,d.put B g1 g2 g3,fun _=>g1.fw⟩;rw[<-nW q];exact(hG (vA q C Q c3)).trans (hH aI (.one (ej V)))
 ·refine⟨_,T,ay,s_,?_⟩;intro fr k cs l i r u ah aa β s' t w q C B d A J aS;obtain⟨m,c1,c2,c3⟩:=M d A;obtain⟨R,y,D⟩:=ap s'.heap w aa ah β _ d.heap c1 c2 J;rw[y]at c3;have j:=bZ.refl d.heap;simp only[newAt,hV,aW];exact⟨aa,β,_,w,.one (s9 q C Q c3 (.inl rfl)),d.put B j (by simpa[aw]using D) (by simp[aC]),fun _=>j.fw⟩
theorem XE{o:Oper}{f:c6}{a:Array c6}{y:Array c7}{b:Nat}{e:aU}{s:St}
 (j:o.op=.call {callee:=.value f,args:=a,argTypes:=y})(hf:ev s.env f=.map b)(hY:ua P b (a.toList.map (ev s.env)) s.heap.length e):Act P n o s e:=by
 have G:∀c,o.op≠.defer c:=fun c hc=>by rw[j]at hc;cases hc
 have u:f∈o.op.operands/\∀x∈a.toList,x∈o.op.operands:=by
  rw[j];simp[he,gg];exact fun x hx=>.inr hx
 intro fr k cs I i r z ah aa β s' t w v H C d m E aS;have h:=(oG d f).1;rw[m f u.1,hf]at h;simp only[aw,bO,bV]at h;obtain⟨l,p⟩:=vK d a.toList;rw[PK (fun x hx=>m x (u.2 x hx))]at l p;obtain⟨F,g,tmps,assign,body,A,B⟩:=hY s'.heap w aa ah β _ d.heap l p E aS;have D:=h.2.2 F;have q:(da (fO t) o).run P w=(Instr.yield (β.al b) (a.toList.map (fO t)).toArray).run P w:=by
  simp only[da,j,resolve,D,Deferred.ofValue,hD,hE,hB,invoke];congr 2;exact b3 s_
 rw[A]at q;obtain⟨J,w',aJ,aD,g1,g2,g3,g4⟩:=B (bA fr t z (.inRegion I (i::r)::k)) cs;refine⟨aD,aJ,_,w',?_,d.put C g2 g3 g4,fun _=>g2.fw⟩;rw[<-nW v];exact(hG (KE v H G q)).trans g1
theorem Yw(m:ma P ag){o:Oper}{K:aU->Prop}{s:St}(h:jT P ag o s K):
 ∃e,K e/\(∀p∈e.ak,s.heap[p.1]?=some p.2)/\(∀p∈e.aG,p.1<s.heap.length/\p.2≠.hole)/\Act P n o s e:=by
 have E:=V4 h;have q:fC P ag o (ev s.env) s.heap K->∃e,K e/\(∀p∈e.ak,s.heap[p.1]?=some p.2)/\(∀p∈e.aG,p.1<s.heap.length/\p.2≠.hole)/\Act P n o s e:=by
  intro h;obtain⟨e,a,hs,ak,aG⟩:=m o _ _ _ (fun v=>rfl) h;refine⟨e,a,ak,aG,?_⟩;intro fr k cs L i r J ah aa β s' t w F G C d B D aS;obtain⟨nx,I,w',aJ,aD,u,y,j,z,A⟩:=hs s'.heap w aa ah β (fO t) d.heap (fun x hx=>by rw[<-B x hx];exact oG d x) D aS;exact⟨aD,aJ,_,w',.one (s9 F G E u y),d.put C j z A,fun _=>j.fw⟩
 unfold jT at h
 split at h
 ·rename_i f args H c
  split at h
  ·rename_i g fi ca hf;exact MQ c (.inr ⟨fi,ca,hf,rfl,rfl⟩) h
  ·rename_i g fi ca hf;exact MQ c (.inl hf) h
  ·rename_i b hf;obtain⟨e,hY,l,a⟩:=h;exact⟨e,a,l.1,l.2,XE c hf hY⟩
  ·exact h.elim
 ·exact q h
end
section
variable{P:c8}{ag:db->Bool}{n:Nat}
def looks(a:Array Oper)(o:Oper):List Tmp:=
 (o.op.operands.toList.filterMap fun x=>match x with
  | .tmp t=>some t
  |_=>none)++(match o.guard with
  |some (j,_)=>(match(a[j]?).bind (·.dst)with
   |some d=>[d]
   |none=>[])
  |none=>[])
def qO(c:Array Oper)(a b:Oper):Bool:=
 (match a.dst with
  |some d=>(looks c b).contains d||b.dst==some d
  |none=>false)||
 (match b.dst with
  |some d=>(looks c a).contains d
  |none=>false)
def fit(_:Nat)(a:Array Oper):Bool:=
 (i5 a.size).all fun j=>match a[j]? with
  |some o=>o.after.toList.all (fun e=>!hw .any e||decide (e.on<j))&&
   (i5 j).all (fun i=>match a[i]? with
    |some u=>!qO a u o||reach a a.size i j
    |none=>true)
  |none=>true
structure Em(P:c8)(n:Nat)(ops:Array Oper)(o:Oper)(s:St)(e:aU):Prop where
 ak:∀p∈e.ak,s.heap[p.1]?=some p.2
 aG:∀p∈e.aG,p.1<s.heap.length
 act:(∀(t:Array c9)(s':St)(ah aa:Nat->Prop)(β:Bd)(w:dg),cU P n ah aa β s' t w->(∀x∈looks ops o,aN s'.env x=aN s.env x)->hv o (yielded ops t)=true)/\Act P n o s e\/
  (∀(t:Array c9)(s':St)(ah aa:Nat->Prop)(β:Bd)(w:dg),cU P n ah aa β s' t w->(∀x∈looks ops o,aN s'.env x=aN s.env x)->hv o (yielded ops t)=false)/\e={v:=.p (.aE [])}
inductive Tr(P:c8)(n:Nat)(ops:Array Oper):List Oper->Nat->St->List (St×aU)->St->Prop
 |nil (i:Nat) (s:St):Tr P n ops [] i s [] s
 |cons {o:Oper} {r:List Oper} {i:Nat} {s s':St} {e:aU} {es:List (St×aU)}:Em P n ops o s e->Tr P n ops r (i+1) (e.app o.dst s) es s'->Tr P n ops (o::r) i s ((s,e)::es) s'
def pF(i:Nat):List (St×aU)->List Touch->List Touch
 |[],acc=>acc
 |(s,e)::r,acc=>pF (i+1) r (im i s.heap.length e acc)
theorem Ca{a:Array Oper}{o:Oper}{j:Nat}{f:Bool}(c:o.guard=some (j,f)){e e':Env}(h:∀x∈looks a o,aN e' x=aN e x):guardOf a j e'=guardOf a j e:=by
 unfold guardOf;cases b:(a[j]?).bind (·.dst)with
 |none=>rfl
 |some d=>
  simp only;exact h d (by simp[looks,c,b])
theorem Mh(B:ma P ag){a:Array Oper}(q:∀o∈a.toList,jB n o=true):∀(l:List Oper)(i:Nat)(d:List Touch)(s:St){K:St->Prop},(∀o∈l,o∈a.toList)->gI P ag a l i d K s->
 ∃c s',Tr P n a l i s c s'/\K s'/\kP a (pF i c d)=true
 |[],i,d,s,K,_,h=>⟨[],s,.nil i s,h.2,h.1⟩
 |o::l,i,d,s,K,hl,h=>by
  have C:=fun d s(h:gI P ag a l (i+1) d K s)=>Mh B q l (i+1) d s (fun o F=>hl o (by simp[F])) h
  have skip:gI P ag a l (i+1) d K ⟨put o.dst (.p (.aE [])) s.env,s.heap⟩->(∀(t:Array c9)(s':St)(ah aa:Nat->Prop)(β:Bd)(w:dg),cU P n ah aa β s' t w->(∀x∈looks a o,aN s'.env x=aN s.env x)->hv o (yielded a t)=false)->
   ∃c s',Tr P n a (o::l) i s c s'/\K s'/\kP a (pF i c d)=true:=by
   intro hk A;obtain⟨c,s',r,u,y⟩:=C _ _ hk;refine⟨(s,{v:=.p (.aE [])})::c,s',.cons ⟨s_,s_,.inr ⟨A,rfl⟩⟩ ?_,u,by simpa[pF,im]using y⟩;simpa[aU.app,aW]using r
  have go:jT P ag o s (fun e=>gI P ag a l (i+1) (im i s.heap.length e d) K (e.app o.dst s))->(∀(t:Array c9)(s':St)(ah aa:Nat->Prop)(β:Bd)(w:dg),cU P n ah aa β s' t w->(∀x∈looks a o,aN s'.env x=aN s.env x)->hv o (yielded a t)=true)->
   ∃c s',Tr P n a (o::l) i s c s'/\K s'/\kP a (pF i c d)=true:=by
   intro hk A;obtain⟨e,D,ak,aG,E⟩:=Yw (n:=n) B hk;obtain⟨c,s',r,u,y⟩:=C _ _ D;exact⟨(s,e)::c,s',.cons ⟨ak,fun p G=>(aG p G).1,.inl ⟨A,E⟩⟩ r,u,by simpa[pF]using y⟩
  simp only[gI]at h
  split at h
  ·rename_i f;exact go h (fun _ _ _ _ _ _ _ _=>by simp[hv,f])
  ·rename_i j H f
   split at h
   ·rename_i b m
    split at h
    ·rename_i z;refine go h (fun t s' ah aa β w k g=>?_);obtain⟨g1,g2⟩:=yG k q j;rw[Ca f g]at g1;simp[hv,f,g1 _ m,z]
    ·rename_i z;refine skip h (fun t s' ah aa β w k g=>?_);obtain⟨g1,g2⟩:=yG k q j;rw[Ca f g]at g1;simp[hv,f,g1 _ m,z]
   ·rename_i m;refine skip h (fun t s' ah aa β w k g=>?_);obtain⟨g1,g2⟩:=yG k q j;rw[Ca f g]at g2;simp[hv,f,g2 m]
   ·exact h.elim
def wQ(a:Array Oper)(D:Nat->Prop):Prop:=∀j o,a[j]?=some o->D j->∀e∈o.after,hw .any e=true->D e.on
theorem Cm{c:Array Oper}{D:Nat->Prop}(hc:wQ c D):∀(f i j:Nat),reach c f i j=true->(∀o,c[j]?=some o->∀e∈o.after,hw .any e=true->D e.on)->D i
 |0,_,_,h,_=>by simp[reach]at h
 |f+1,i,j,h,d=>by
  simp only[reach]at h
  split at h
  case h_2=>simp at h
  rename_i o g;simp only[cE,ik,cy,beq_iff_eq,decide_eq_true_eq]at h;rcases h with⟨e,b,a,rfl⟩|⟨e,b,⟨a,_⟩,k⟩
  ·exact d o g e (by simpa using b) a
  ·have m:=d o g e (by simpa using b) a;exact Cm hc f i e.on k (fun o' p e' n l=>hc _ o' p m e' n l)
end
section
variable{P:c8}{ag:db->Bool}{n:Nat}
theorem tu(a:Nat)(l:List Obj):(newAt a l).map (·.1)=oB a l:=by
 induction l generalizing a with
 |nil=>rfl
 |cons o l b=>simp[newAt,oB,b]
theorem JN{a b:Nat}{l:List Obj}:b∈oB a l↔a<=b/\b<a+l.length:=by
 induction l generalizing a with
 |nil=>simp[oB]
 |cons o l c=>simp only[oB,hW,c,List.length_cons];omega
theorem yQ{l:List (Nat×Obj)}{b:Nat}(h:b∉l.map (·.1)):∀H:Heap,(aW H l)[b]?=H[b]?:=by
 induction l with
 |nil=>intro H;rfl
 |cons p l a=>
  obtain⟨c,o⟩:=p;intro H;simp only[hU,hW,not_or]at h;simp only[aW];rw[a h.2,h3 (lq h.1)]
theorem Xe{l:List (Nat×Obj)}{b:Nat}(h:b∈l.map (·.1)):∀H H':Heap,H.length=H'.length->(aW H l)[b]?=(aW H' l)[b]?:=by
 induction l with
 |nil=>simp at h
 |cons p l e=>
  obtain⟨c,o⟩:=p;intro H H' hl;simp only[aW]
  by_cases a:b∈l.map (·.1)
  ·exact e a _ _ (by simp[hl])
  ·rw[yQ a,yQ a];simp only[hU,hW]at h;have:b=c:=h.resolve_right a;subst this
   by_cases d:b<H.length
   ·rw[hR d,hR o_]
   ·rw[i9 (by simp;omega),i9 (by simp;omega)]
def dj(es:List (St×aU))(s':St)(k:Nat):St:=match es[k]? with
 |some (s,_)=>s
 |none=>s'
def fP(es:List (St×aU))(k:Nat):aU:=match es[k]? with
 |some (_,e)=>e
 |none=>{v:=.p .undef}
theorem Tr.at{a:Array Oper}:∀{l:List Oper}{i:Nat}{s s':St}{es:List (St×aU)},Tr P n a l i s es s'->es.length=l.length/\dj es s' 0=s/\
 ∀k o,l[k]?=some o->Em P n a o (dj es s' k) (fP es k)/\dj es s' (k+1)=(fP es k).app o.dst (dj es s' k)
 |_,_,_,_,_,.nil i s=>⟨rfl,rfl,fun k o h=>by simp at h⟩
 |_,_,_,_,_,.cons (o:=o) (r:=r) (i:=i) (s:=s) (s':=s') (e:=e) (es:=es) hi c=>by
  obtain⟨h1,h2,b⟩:=c.at;refine⟨by simp[h1],rfl,fun k o' hk=>?_⟩;cases k with
  |zero=>
   simp at hk;subst hk;refine⟨by simpa[dj,fP]using hi,?_⟩;have:dj ((s,e)::es) s' (0+1)=dj es s' 0:=by simp[dj]
   rw[this,h2];simp[dj,fP]
  |succ k=>
   have e1:∀m,dj ((s,e)::es) s' (m+1)=dj es s' m:=fun m=>by simp[dj]
   have e2:fP ((s,e)::es) (k+1)=fP es k:=by simp[fP]
   rw[e1,e1,e2];exact b k o' (by simpa using hk)
theorem We(u:Touch)(i:Nat):jO u ⟨i,[],[]⟩=false:=by
 simp[jO]
theorem VT(i b:Nat)(e:aU)(a:List Touch):(im i b e a=a/\iN i b e=⟨i,[],[]⟩)\/im i b e a=iN i b e::a:=by
 unfold im
 split
 ·rename_i c d f;exact .inl ⟨rfl,by simp[iN,c,d,f,oB]⟩
 ·exact .inr rfl
theorem KD{c:Array Oper}:∀(g:List (St×aU))(i:Nat)(d:List Touch),kP c (pF i g d)=true->kP c d=true/\
 (∀u∈d,∀b s e,g[b]?=some (s,e)->jO u (iN (i+b) s.heap.length e)=true->reach c c.size u.i (i+b)=true)/\
 (∀a b s e f e2,a<b->g[a]?=some (s,e)->g[b]?=some (f,e2)->jO (iN (i+a) s.heap.length e) (iN (i+b) f.heap.length e2)=true->reach c c.size (i+a) (i+b)=true)
 |[],i,d,h=>⟨h,s_,s_⟩
 |(s,e)::g,i,d,h=>by
  simp only[pF]at h;obtain⟨j,m,r⟩:=KD g (i+1) _ h
  have key:kP c d=true/\(∀u∈d,jO u (iN i s.heap.length e)=true->reach c c.size u.i i=true)/\(∀u∈d,∀b s e,g[b]?=some (s,e)->jO u (iN (i+1+b) s.heap.length e)=true->reach c c.size u.i (i+1+b)=true)/\
   (∀b f e2,g[b]?=some (f,e2)->jO (iN i s.heap.length e) (iN (i+1+b) f.heap.length e2)=true->reach c c.size i (i+1+b)=true):=by
   rcases VT i s.heap.length e d with⟨o,q⟩|o
   ·rw[o]at j m;refine⟨j,fun u _ hc=>?_,m,fun b f e2 _ hc=>?_⟩
    ·rw[q,We]at hc;cases hc
    ·rw[q]at hc;simp[jO]at hc
   ·rw[o]at j m;simp only[kP,cy,h8]at j;refine⟨j.2,fun u l hc=>?_,fun u l=>m u (by simp[l]),m _ s_⟩;have:=j.1 u l;rw[hc]at this;exact(by simpa using this:reach c c.size u.i (iN i s.heap.length e).i=true)
  obtain⟨k1,k2,k3,k4⟩:=key;refine⟨k1,?_,?_⟩
  ·intro u l b p e1 k hc;cases b with
   |zero=>simp at k;obtain⟨rfl,rfl⟩:=k;exact k2 u l hc
   |succ b=>
    have:=k3 u l b p e1 (by simpa using k);rw[show i+(b+1)=i+1+b by omega]at hc⊢;exact this hc
  ·intro a b p e1 f e2 t n k hc;cases b with
   |zero=>omega
   |succ b=>
    rw[show i+(b+1)=i+1+b by omega]at hc⊢;cases a with
    |zero=>
     simp at n;obtain⟨rfl,rfl⟩:=n;exact k4 b f e2 (by simpa using k) hc
    |succ a=>
     rw[show i+(a+1)=i+1+a by omega]at hc⊢;exact r a b p e1 f e2 o_ (by simpa using n) (by simpa using k) hc
end
section
variable{P:c8}{ag:db->Bool}{n:Nat}
def hx(N:Nat)(s:St):Heap:=s.heap++hT (N-s.heap.length) .hole
def uT(a:Nat)(e:aU):List Nat:=(e.aG++newAt a e.aS).map (·.1)
theorem azx{N:Nat}{s:St}{e:aU}{o:Oper}(aG:∀p∈e.aG,p.1<s.heap.length)(c:(e.app o.dst s).heap.length<=N):hx N (e.app o.dst s)=aW (hx N s) (e.aG++newAt s.heap.length e.aS):=by
 have hl:(e.app o.dst s).heap=aW s.heap e.aG++e.aS:=rfl;have d:(e.app o.dst s).heap.length=s.heap.length+e.aS.length:=by rw[hl];simp[pc]
 unfold hx;rw[hl];have b:N-s.heap.length=e.aS.length+(N-(s.heap.length+e.aS.length)):=o_
 rw[b,<-List.replicate_append_replicate,<-ih,yt _ _ _ (by
  intro p a;rcases i8.1 a with a|a
  ·have:=aG p a;simp;omega
  ·have:p.1∈(newAt s.heap.length e.aS).map (·.1):=j8 a
   rw[tu,JN]at this;simp;omega)]
 rw[B7,yt _ _ _ aG];have:=Cl (aW s.heap e.aG) e.aS;rw[pc]at this;rw[this];congr 2;simp[pc]
section sched
variable{ops:Array Oper}{es:List (St×aU)}{s0 s':St}
structure jC(P:c8)(n:Nat)(ops:Array Oper)(es:List (St×aU))(s':St):Prop where
 len:es.length=ops.size
 at_:∀k o,ops[k]?=some o->Em P n ops o (dj es s' k) (fP es k)/\dj es s' (k+1)=(fP es k).app o.dst (dj es s' k)
 dst:∀o∈ops.toList,jB n o=true
 lower:∀j o,ops[j]?=some o->∀e∈o.after,hw .any e=true->e.on<j
 tmps:∀i j u o,i<j->ops[i]?=some u->ops[j]?=some o->qO ops u o=true->reach ops ops.size i j=true
 heap:∀i j,i<j->j<ops.size->jO (iN i (dj es s' i).heap.length (fP es i)) (iN j (dj es s' j).heap.length (fP es j))=true->reach ops ops.size i j=true
def wr(a:List (St×aU))(s':St)(i:Nat):List Nat:=uT (dj a s' i).heap.length (fP a i)
structure At(ops:Array Oper)(es:List (St×aU))(s':St)(D:Nat->Prop)(s:St):Prop where
 tmp:∀x,∃k,k<=ops.size/\aN s.env x=aN (dj es s' k).env x/\∀i o,ops[i]?=some o->o.dst=some x->(D i↔i<k)
 len:s.heap.length=s'.heap.length
 heap:∀b,∃k,k<=ops.size/\s.heap[b]?=(hx s'.heap.length (dj es s' k))[b]?/\∀i,i<ops.size->b∈wr es s' i->(D i↔i<k)
variable(h:jC P n ops es s')
include h
theorem jC.mono:∀{k m:Nat},k<=m->m<=ops.size->(dj es s' k).heap.length<=(dj es s' m).heap.length:=by
 intro k m e f
 induction m with
 |zero=>
  obtain rfl:k=0:=o_
  exact kp _
 |succ m c=>
  by_cases hk:k=m+1
  ·subst hk;exact kp _
  ·have d:=c o_ o_;have b:ops[m]?=some ops[m]:=b2 o_;obtain⟨_,a⟩:=h.at_ m _ b;rw[a];simp only[aU.app,hS,pc];omega
theorem jC.last:dj es s' ops.size=s':=by
 have:es[ops.size]?=none:=i9 (by rw[h.len];exact kp _);simp[dj,this]
theorem jC.xo{k:Nat}(hk:k<=ops.size):(dj es s' k).heap.length<=s'.heap.length:=by
 have:=h.mono hk (kp _)
 rwa [h.last]at this
theorem jC.iu{k:Nat}(hk:k<ops.size):hx s'.heap.length (dj es s' (k+1))=aW (hx s'.heap.length (dj es s' k)) ((fP es k).aG++newAt (dj es s' k).heap.length (fP es k).aS):=by
 have c:ops[k]?=some ops[k]:=b2 hk;obtain⟨h1,b⟩:=h.at_ k _ c;have a:=h.xo (k:=k+1) hk;rw[b]at a⊢;exact azx h1.aG a
theorem azw{k:Nat}(hk:k<=ops.size):(hx s'.heap.length (dj es s' k)).length=s'.heap.length:=by
 have:=h.xo hk;simp[hx];omega
theorem jC.Mi{x:Nat}:∀{k m:Nat},k<=m->m<=ops.size->(∀i o,k<=i->i<m->ops[i]?=some o->o.dst≠some x)->aN (dj es s' m).env x=aN (dj es s' k).env x:=by
 intro k m j
 induction m with
 |zero=>
  intro _ _;obtain rfl:k=0:=o_
  rfl
 |succ m g=>
  intro l d
  by_cases hk:k=m+1
  ·subst hk;rfl
  ·have e:=g o_ o_ (fun i o a b=>d i o a o_);have c:ops[m]?=some ops[m]:=b2 o_;obtain⟨_,f⟩:=h.at_ m _ c;rw[f];simp only[aU.app,vH];rw[if_neg (d m _ o_ o_ c)];exact e
theorem jC.LL{b:Nat}:∀{k m:Nat},k<=m->m<=ops.size->(∀i,k<=i->i<m->b∉wr es s' i)->(hx s'.heap.length (dj es s' m))[b]?=(hx s'.heap.length (dj es s' k))[b]?:=by
 intro k m f
 induction m with
 |zero=>
  intro _ _;obtain rfl:k=0:=o_
  rfl
 |succ m e=>
  intro g c
  by_cases hk:k=m+1
  ·subst hk;rfl
  ·have d:=e o_ o_ (fun i a b=>c i a o_);rw[h.iu o_,yQ (c m o_ o_)];exact d
theorem jC.ND{x:Nat}{k m:Nat}(hk:k<=ops.size)(g:m<=ops.size)(f:∀i o,ops[i]?=some o->o.dst=some x->(i<k↔i<m)):aN (dj es s' m).env x=aN (dj es s' k).env x:=by
 rcases ln k m with d|d
 ·exact h.Mi d g fun i o a b e c=>by have:=f i o e c;omega
 ·exact(h.Mi d hk fun i o a b e c=>by have:=f i o e c;omega).symm
theorem jC.Nj{b:Nat}{k m:Nat}(hk:k<=ops.size)(g:m<=ops.size)(f:∀i,i<ops.size->b∈wr es s' i->(i<k↔i<m)):(hx s'.heap.length (dj es s' m))[b]?=(hx s'.heap.length (dj es s' k))[b]?:=by
 rcases ln k m with e|e
 ·exact h.LL e g fun i a c d=>by have:=f i o_ d;omega
 ·exact(h.LL e hk fun i a c d=>by have:=f i o_ d;omega).symm
variable{D:Nat->Prop}(hc:wQ ops D)
include hc
theorem jC.order{i:Nat}{o:Oper}(k:ops[i]?=some o)(h:¬D i)(l:∀e∈o.after,hw .any e=true->D e.on):
 (∀j,j<i->reach ops ops.size j i=true->D j)/\(∀j,j<ops.size->i<j->reach ops ops.size i j=true->¬D j):=by
 constructor
 ·intro j g b;exact Cm hc _ _ _ b (fun o' a=>by rw[k]at a;cases a;exact l)
 ·intro j m g b d;exact h (Cm hc _ _ _ b (fun o' a e f c=>hc j o' a d e f c))
theorem jC.reads{i:Nat}{o:Oper}(l:ops[i]?=some o)(q:¬D i)(y:∀e∈o.after,hw .any e=true->D e.on){s:St}(t:At ops es s' D s):
 (∀x∈looks ops o,aN s.env x=aN (dj es s' i).env x)/\(∀b,b∈(fP es i).ak.map (·.1)\/b∈wr es s' i->s.heap[b]?=(hx s'.heap.length (dj es s' i))[b]?):=by
 obtain⟨v,w⟩:=h.order hc l q y;have hi:i<ops.size:=(b1.1 l).1;constructor
 ·intro x hx;obtain⟨k,k1,k2,k3⟩:=t.tmp x;rw[k2];refine h.ND o_ k1 fun j u m p=>?_;have g:j<ops.size:=(b1.1 m).1;rw[<-k3 j u m p];constructor
  ·intro a;refine v j a (h.tmps j i u o a m l ?_);simp[qO,p,hx]
  ·intro f;rcases kv j i with a|rfl|a
   ·exact a
   ·exact(q f).elim
   ·exact(w j g a (h.tmps i j o u a l m (by simp[qO,p,hx])) f).elim
 ·intro b c;obtain⟨k,k1,k2,k3⟩:=t.heap b;rw[k2];refine h.Nj o_ k1 fun j g n=>?_;rw[<-k3 j g n];have r:b∈(iN j (dj es s' j).heap.length (fP es j)).wr:=by
   unfold wr uT at n;rw[h5,tu]at n;exact n
  have d:b∈(iN i (dj es s' i).heap.length (fP es i)).rd\/b∈(iN i (dj es s' i).heap.length (fP es i)).wr:=by
   rcases c with c|c
   ·exact .inl c
   ·unfold wr uT at c;rw[h5,tu]at c;exact .inr c
  constructor
  ·intro a;refine v j a (h.heap j i a hi ?_);simp only[jO,cE,ik,ii];exact .inl ⟨b,r,d⟩
  ·intro f;rcases kv j i with a|rfl|a
   ·exact a
   ·exact(q f).elim
   ·refine(w j g a (h.heap i j a g ?_) f).elim;simp only[jO,cE,ik,ii];rcases d with d|d
    ·exact .inr ⟨b,d,r⟩
    ·exact .inl ⟨b,d,.inr r⟩
theorem jC.next{i:Nat}{o:Oper}(l:ops[i]?=some o)(z:¬D i)(A:∀e∈o.after,hw .any e=true->D e.on){s:St}(p:At ops es s' D s):
 At ops es s' (fun j=>D j\/j=i) ⟨put o.dst (fP es i).v s.env,aW s.heap ((fP es i).aG++newAt (dj es s' i).heap.length (fP es i).aS)⟩:=by
 obtain⟨w,y⟩:=h.order hc l z A;have hi:i<ops.size:=(b1.1 l).1;obtain⟨B,iu⟩:=h.at_ i o l;refine⟨fun x=>?_,by simp only[pc];exact p.len,fun b=>?_⟩
 ·by_cases hx:o.dst=some x
  ·refine⟨i+1,hi,?_,fun j u d n=>?_⟩
   ·rw[iu];simp[aU.app,vH,hx]
   ·have g:j<ops.size:=(b1.1 d).1;constructor
    ·rintro(c|rfl)
     ·rcases kv j i with a|rfl|a
      ·omega
      ·omega
      ·exact(y j g a (h.tmps i j o u a l d (by simp[qO,n,hx])) c).elim
     ·omega
    ·intro a
     by_cases q:j=i
     ·exact .inr q
     ·exact .inl (w j o_ (h.tmps j i u o o_ d l (by simp[qO,n,hx])))
  ·obtain⟨k,k1,k2,k3⟩:=p.tmp x;refine⟨k,k1,?_,fun j u d n=>?_⟩
   ·simp only[vH];rw[if_neg hx];exact k2
   ·rw[<-k3 j u d n];constructor
    ·rintro(c|rfl)
     ·exact c
     ·rw[l]at d;cases d;exact(hx n).elim
    ·exact .inl
 ·by_cases f:b∈wr es s' i
  ·refine⟨i+1,hi,?_,fun j g m=>?_⟩
   ·rw[h.iu hi];exact Xe f _ _ (by rw[azw h o_];exact p.len)
   ·have t:b∈(iN j (dj es s' j).heap.length (fP es j)).wr:=by
     unfold wr uT at m;rw[h5,tu]at m;exact m
    have r:b∈(iN i (dj es s' i).heap.length (fP es i)).wr:=by
     unfold wr uT at f;rw[h5,tu]at f;exact f
    constructor
    ·rintro(c|rfl)
     ·rcases kv j i with a|rfl|a
      ·omega
      ·omega
      ·refine(y j g a (h.heap i j a g ?_) c).elim;simp only[jO,cE,ik,ii];exact .inl ⟨b,r,.inr t⟩
     ·omega
    ·intro a
     by_cases q:j=i
     ·exact .inr q
     ·refine .inl (w j o_ (h.heap j i o_ hi ?_));simp only[jO,cE,ik,ii];exact .inl ⟨b,t,.inr r⟩
  ·obtain⟨k,k1,k2,k3⟩:=p.heap b;refine⟨k,k1,?_,fun j g m=>?_⟩
   ·simp only;rw[yQ f];exact k2
   ·rw[<-k3 j g m];constructor
    ·rintro(c|rfl)
     ·exact c
     ·exact(f m).elim
    ·exact .inl
end sched
end
section
variable{P:c8}{ag:db->Bool}{n:Nat}
variable{ops:Array Oper}{es:List (St×aU)}{s':St}
theorem cU.congr{ah aa:Nat->Prop}{β:Bd}{s u:St}{t:Array c9}{w:dg}(h:cU P n ah aa β s t w)(b:∀x,aN u.env x=aN s.env x)(a:u.heap=s.heap):cU P n ah aa β u t w:=by
 refine⟨by rw[a];exact h.heap,fun x=>?_,fun x=>?_,h.size⟩
 ·rw[b,a];exact h.env x
 ·rw[b,a];exact h.gV x
theorem cU.nA{ah aa:Nat->Prop}{β:Bd}{s:St}{t:Array c9}{w:dg}(m:Nat)(h:cU P n ah aa β s t w):cU P n ah aa β ⟨s.env,s.heap++hT m .hole⟩ t w:=
 ⟨h.heap.nA m,fun x=>aw.mono (fun _ x=>x) (fun _ _=>rfl) (pg β s.heap m) _ _ (h.gV x) (h.env x),fun x=>aC.mono (mY _ _) _ (h.gV x),h.size⟩
theorem YY{o:Oper}{e e':Env}(h:∀x∈looks ops o,aN e' x=aN e x):∀x∈o.op.operands,ev e' x=ev e x:=by
 intro x hx;cases x with
 |tmp t=>
  simp only[ev];refine h t ?_;simp only[looks,i8,List.mem_filterMap];exact .inl ⟨.tmp t,by simpa using hx,rfl⟩
 |_=>rfl
theorem jC.run(h:jC P n ops es s'){D:Nat->Prop}(hc:wQ ops D){i:Nat}{o:Oper}(a:ops[i]?=some o)(v:¬D i)(y:∀e∈o.after,hw .any e=true->D e.on){s:St}(l:At ops es s' D s)
 {fr:ed}{k:List Item}{cs:List ed}{r:List Nat}{ds:List ei}{ah aa:Nat->Prop}{β:Bd}{t:Array c9}{w:dg}(b:cU P n ah aa β s t w):
 ∃u aD aJ d w',et P (lone (bA fr t ds (.inRegion ops (i::r)::k)) cs w) (lone (bA fr d ds (.inRegion ops r::k)) cs w')/\cU P n ah aD aJ u d w'/\(∀N,dM N ah aa w β s.heap ah aD w' aJ u.heap)/\At ops es s' (fun j=>D j\/j=i) u:=by
 obtain⟨r1,r2⟩:=h.reads hc a v y l;have hi:i<ops.size:=(b1.1 a).1;obtain⟨q,_⟩:=h.at_ i o a;have c:=h.next hc a v y l;have m:jB n o=true:=h.dst o (by rw[Array.mem_toList_iff];exact Array.mem_of_getElem? a);have F:=h.xo (k:=i) o_;rcases q.act with⟨f,A⟩|⟨f,B⟩
 ·obtain⟨aD,aJ,d,w',z,a2,a3⟩:=A fr k cs ops i r ds ah aa β s t w a (f t s ah aa β w b r1) m b (YY r1) (by
   intro p x;rw[r2 p.1 (.inl (j8 x))];have:=q.ak p x;unfold hx;rw[iz (hQ.1 this).1];exact this) (by
   intro j E;have C:(dj es s' i).heap.length+j∈wr es s' i:=by
    unfold wr uT;rw[h5,tu];exact List.mem_append_right _ (JN.2 ⟨o_,o_⟩)
   rw[r2 _ (.inr C)];have g:=h.xo (k:=i+1) o_;rw[(h.at_ i o a).2]at g;simp only[aU.app,hS,pc]at g;unfold hx;rw[kM,if_neg o_,if_pos o_])
  exact⟨_,aD,aJ,d,w',z,a2,a3,c⟩
 ·rw[B]at c;simp only[newAt,hV,aW]at c;exact⟨_,aa,β,_,w,.one (Ll a (f t s ah aa β w b r1)),b.put m (bZ.refl b.heap) (by simp[aw,aB,bm,undef]) (by simp[aC]),fun _=>dM.refl _ _ _ _ _ _,c⟩
def isDone(a:Array Bool)(i:Nat):Prop:=a.getD i false=true
theorem Kp{p:Nat->Bool}{i:Nat}:∀{l:List Nat},l.Nodup->i∈l->p i=true->l.countP p=l.countP (fun x=>p x&&x !=i)+1
 |[],_,h,_=>by simp at h
 |a::l,c,h,d=>by
  rw[List.nodup_cons]at c
  by_cases b:a=i
  ·subst b;have e:l.countP (fun x=>p x&&x !=a)=l.countP p:=by
    refine j9 fun x hx=>?_;have:x≠a:=fun e=>c.1 (e▸hx);simp[this]
   simp[d,e]
  ·have f:i∈l:=by
    rcases hW.1 h with h|h
    ·exact(b h.symm).elim
    ·exact h
   have g:=Kp c.2 f d;rw[kc,kc,g];have:(a !=i)=true:=by simpa using b
   simp only[this,Bool.and_true];omega
def left(b:Array Oper)(a:Array Bool):Nat:=(i5 b.size).countP fun i=>!a.getD i true
theorem jC.goes(h:jC P n ops es s'){fr:ed}{k:List Item}{cs:List ed}{ds:List ei}{ah:Nat->Prop}:∀(c b:Nat)(a:Array Bool)(s:St)(aa:Nat->Prop)(β:Bd)(t:Array c9)(w:dg),a.size=ops.size->left ops a<=c->wQ ops (isDone a)->
 At ops es s' (isDone a) s->cU P n ah aa β s t w->
 ∃u D aD aJ Q w',et P (lone (bA fr t ds (.inRegion ops (hA .any ops c b a [])::k)) cs w) (lone (bA fr Q ds (.inRegion ops []::k)) cs w')/\cU P n ah aD aJ u Q w'/\(∀N,dM N ah aa w β s.heap ah aD w' aJ u.heap)/\At ops es s' D u/\∀j,j<ops.size->D j:=by
 have L:∀(a:Array Bool),a.size=ops.size->ht .any ops a=[]->∀j,j<ops.size->isDone a j:=by
  intro a q f j
  induction j using li with
  |_ j K=>
   intro d
   by_cases A:isDone a j
   ·exact A
   ·exfalso;have G:j<a.size:=by omega
    have:j∈ht .any ops a:=by
     rw[eo];refine⟨?_,ops[j],b2 d,fun e B z=>?_⟩
     ·unfold isDone at A;simp only[ce,b2 G,lu]at A⊢;simpa using A
     ·have H:=h.lower j _ (b2 d) e B z;exact K e.on H o_
    rw[f]at this;simp at this
 intro c
 induction c with
 |zero=>
  intro b a s aa β t w q hl hc y C;have f:ht .any ops a=[]:=by
   rw[List.eq_nil_iff_forall_not_mem];intro j d;rw[eo]at d;obtain⟨g,o,m,_⟩:=d;have G:j<ops.size:=(b1.1 m).1;have:0<left ops a:=by
    unfold left;rw[List.countP_pos_iff];exact⟨j,by simpa using G,by rw[g];rfl⟩
   omega
  exact⟨s,isDone a,aa,β,t,w,by simp only[hA,List.reverse_nil];exact hK _ _,C,fun _=>dM.refl _ _ _ _ _ _,y,L a q f⟩
 |succ c K=>
  intro b a s aa β t w q hl hc y C;have ab:hA .any ops (c+1) b a []=(match(ht .any ops a)[b% (ht .any ops a).length]? with
   |some i=>hA .any ops c (b/(ht .any ops a).length) (a.setIfInBounds i true) [i]
   |none=>[].reverse):=rfl
  rw[ab];cases hi:(ht .any ops a)[b% (ht .any ops a).length]? with
  |none=>
   have f:ht .any ops a=[]:=by
    cases f:ht .any ops a with
    |nil=>rfl
    |cons x xs=>
     rw[f]at hi;have H:b% (x::xs).length<(x::xs).length:=Nat.mod_lt _ s_;rw[hX H]at hi;cases hi
   exact⟨s,isDone a,aa,β,t,w,hK _ _,C,fun _=>dM.refl _ _ _ _ _ _,y,L a q f⟩
  |some i=>
   simp only;rw[linearise_go_acc,List.reverse_singleton,List.singleton_append];have ae:=List.mem_of_getElem? hi;obtain⟨g,o,m,O⟩:=eo.1 ae;have ac:i<ops.size:=(b1.1 m).1;have E:i<a.size:=o_
   have af:¬isDone a i:=by
    unfold isDone;simp only[ce,b2 E,lu]at g⊢;simp[g]
   obtain⟨u,R,aj,t1,ag,T,a2,a3,a4⟩:=h.run (fr:=fr) (k:=k) (cs:=cs) (ds:=ds) (r:=hA .any ops c (b/(ht .any ops a).length) (a.setIfInBounds i true) []) hc m af O y C;have M:(fun j=>isDone a j\/j=i)=isDone (a.setIfInBounds i true):=by
    funext j
    unfold isDone
    by_cases F:j=i
    ·subst F;simp[E]
    ·have:(a.setIfInBounds i true).getD j false=a.getD j false:=er false (lq F);rw[this];simp[F]
   rw[M]at a4;have Z:wQ ops (isDone (a.setIfInBounds i true)):=by
    rw[<-M];intro j o' I d e B z;rcases d with d|rfl
    ·exact .inl (hc j o' I d e B z)
    ·rw[m]at I;cases I;exact .inl (O e B z)
   have ad:left ops (a.setIfInBounds i true)<=c:=by
    have al:=Kp (p:=fun j=>!a.getD j true) (i:=i) (l:=i5 ops.size) List.nodup_range (by simpa using ac) (by show(!a.getD i true)=true;rw[g];rfl);have:left ops (a.setIfInBounds i true)=(i5 ops.size).countP (fun x=>!a.getD x true&&x !=i):=by
     unfold left;refine j9 fun x hx=>?_
     by_cases J:x=i
     ·subst J;simp[E]
     ·have:(a.setIfInBounds i true).getD x true=a.getD x true:=er true (lq J);rw[this];simp[J]
    unfold left at hl;omega
   obtain⟨v,D,S,ak,t2,ai,U,V,W,X,Y⟩:=K (b/(ht .any ops a).length) (a.setIfInBounds i true) u R aj t1 ag (by simpa using q) ad Z a4 a2;exact⟨v,D,S,ak,t2,ai,T.trans U,V,fun N=>(a3 N).trans (W N),X,Y⟩
theorem YW(h:fit n ops=true):(∀j o,ops[j]?=some o->∀e∈o.after,hw .any e=true->e.on<j)/\
 (∀i j u o,i<j->ops[i]?=some u->ops[j]?=some o->qO ops u o=true->reach ops ops.size i j=true):=by
 unfold fit at h;rw[h8]at h;constructor
 ·intro j o a e f c;have b:j<ops.size:=(b1.1 a).1;have:=h j (by simpa using b);rw[a]at this;simp only[cy,h8]at this;have:=this.1 e (by simpa using f);simpa[c]using this
 ·intro i j u o g k a d;have b:j<ops.size:=(b1.1 a).1;have:=h j (by simpa using b);rw[a]at this;simp only[cy,h8]at this;have:=this.2 i (by simpa using g);rw[k]at this;simpa[d]using this
theorem yD(C:ma P ag)(Z:P.follows .mixedOrders=true):tz P ag fit:=by
 intro n N a fr k cs F f K s ah aa β t w T B h ab;obtain⟨es,s',I,J,M⟩:=Mh C B a.toList 0 [] s (fun _ h=>h) h;obtain⟨t1,t2,t3⟩:=I.at;obtain⟨_,_,O⟩:=KD es 0 [] M;obtain⟨f1,f2⟩:=YW (n:=n) T;have X:es.length=a.size:=by simpa using t1
 have hs:jC P n a es s':=by
  refine⟨X,fun k o c=>t3 k o (by simpa using c),B,f1,f2,fun i j U ai v=>?_⟩;have hi:i<es.length:=o_
  have A:j<es.length:=o_
  have G:es[i]?=some (es[i].1,es[i].2):=by simp[hX hi]
  have H:es[j]?=some (es[j].1,es[j].2):=by simp[hX A]
  have:=O i j es[i].1 es[i].2 es[j].1 es[j].2 U G H;simp only[la]at this;refine this ?_;have g:dj es s' i=es[i].1/\fP es i=es[i].2:=by simp[dj,fP,hX hi]
  have q:dj es s' j=es[j].1/\fP es j=es[j].2:=by simp[dj,fP,hX A]
  rw[g.1,g.2,q.1,q.2]at v;exact v
 have V:=hs.xo (k:=0) (le _);rw[t2]at V;obtain⟨m,Y⟩:∃m,m=s'.heap.length-s.heap.length:=⟨_,rfl⟩
 have ac:=ab.nA m;have Q:∀N,dM N ah aa w β s.heap ah aa w β (s.heap++hT m .hole):=fun N=>⟨fun _ x=>x,fun _ x=>x,fun _ x=>.inl x,Ext.refl _ _ _,(pg _ _ _).n,fun x _=>mY _ _ x,fun b _⟨L,r⟩=>⟨L,by rw[kM,if_pos (hQ.1 r).1];exact r⟩⟩
 have ad:hz (P.follows .mixedOrders) a f=hA .any a a.size f (cb a.size false) []:=by
  simp[hz,Z,Region.linearise]
 have e:∀i,¬isDone (cb a.size false) i:=by
  intro i hi;unfold isDone at hi
  by_cases z:i<a.size
  ·simp[z]at hi
  ·simp[z]at hi
 have R:At a es s' (isDone (cb a.size false)) ⟨s.env,s.heap++hT m .hole⟩:=by
  refine⟨fun x=>⟨0,le _,by rw[t2],fun i o _ _=>⟨fun h=>(e i h).elim,fun h=>by omega⟩⟩,by simp;omega,fun b=>⟨0,le _,by rw[t2];unfold hx;rw[<-Y],fun i _ _=>⟨fun h=>(e i h).elim,fun h=>by omega⟩⟩⟩
 have W:left a (cb a.size false)<=a.size:=by
  unfold left;have:=List.countP_le_length (p:=fun i=>!(cb a.size false).getD i true) (l:=i5 a.size);simpa using this
 obtain⟨u,D,aD,aJ,af,w',E,a2,a3,a4,a5⟩:=hs.goes (fr:=fr) (k:=k) (cs:=cs) (ds:=F) a.size f (cb a.size false) _ aa β t w s_ W (fun j o c d=>(e j d).elim) R ac;rw[ad];have S:∀x,aN s'.env x=aN u.env x:=by
  intro x;obtain⟨k,k1,k2,k3⟩:=a4.tmp x;rw[k2];have:=hs.ND (x:=x) k1 (kp a.size) (fun i o c d=>by
   have hi:i<a.size:=(b1.1 c).1;have:=(k3 i o c d).1 (a5 i hi);exact⟨fun _=>hi,fun _=>this⟩)
  rw[hs.last]at this;exact this
 have y:s'.heap=u.heap:=by
  apply List.ext_getElem?;intro b;obtain⟨k,k1,k2,k3⟩:=a4.heap b;rw[k2];have:=hs.Nj (b:=b) k1 (kp a.size) (fun i hi ae=>by
   have:=(k3 i hi ae).1 (a5 i hi);exact⟨fun _=>hi,fun _=>this⟩)
  rw[hs.last]at this;rw[<-this];simp[hx]
 exact⟨s',aD,aJ,af,w',J,E,a2.congr S y,(Q N).trans (y▸a3 N)⟩
end
section
variable{P:c8}
structure an(P:c8)(f:db)(fn:Func):Prop where
 func:P.funcs[f]?=some fn
 stat:(fn.body.isSome&&(fn.name != "runtime.NumGoroutine")&&codeOk fit fn.ntmps (fn.body.getD .skip))=true
theorem i_{P:c8}{n:db}{fn:Func}(h:P.funcs[n]?=some fn)(k:(fn.body.isSome&&(fn.name != "runtime.NumGoroutine")&&codeOk fit fn.ntmps (fn.body.getD .skip))=true:=by kernel_rfl):an P n fn:=⟨h,k⟩
theorem an.enters{f:db}{fn:Func}(h:an P f fn):Enters P f:=by
 intro args w;have hs:=h.stat;simp only[cy,bne_iff_ne]at hs;cases a:fn.body with
 |none=>rw[a]at hs;simp at hs
 |some c=>simp[callFunc,h.func,hs.1.2,a]
def Ends(P:c8)(a:List ec)(v:PV)(e:bw)(s:St):Prop:=
 (match e with
  | .exit _=>False
  |_=>True)/\∃vs,fS P s a=some vs/\eD s.heap 9 (oneOf vs)=some v
theorem uz{f:db}{fn:Func}(ag:db->Bool)(h:an P f fn)(b:P.follows .mixedOrders=true){args:List PV}{v:PV}(c:args.length<=fn.ntmps)
 (d:cg P ag (fn.ntmps,0) (fn.body.getD .skip) (Ends P fn.results.toList v) ⟨jg 0 (args.map .p),[]⟩):aA P f args v:=by
 have hs:=h.stat;simp only[cy,bne_iff_ne]at hs;have a:fn.body=some (fn.body.getD .skip):=by
  have:=hs.1.1;cases e:fn.body<;>simp_all
 exact .inl (ME (pf ag) (yD (pf ag) b) h.enters h.func a hs.2 c d)
class aMY(P:c8)(f:db)(args:List PV)(pre:outParam Prop)(v:outParam PV):Prop where
 uz:pre->aA P f args v
section calls
variable{f:db}{H:Heap}{pre:Prop}{v:PV}
end calls
def sd(e:Env):Env->Prop
 |[]=>True
 |(x,v)::r=>aN e x=v/\sd e r
def kZ:Heap->Heap->Prop
 |_,[]=>True
 |[],.hole::t=>kZ [] t
 |_::h,.hole::t=>kZ h t
 |o::h,o'::t=>o=o'/\kZ h t
 |[],_::_=>False
theorem sd.get{e:Env}:∀{t:Env},sd e t->∀x,aN t x=aN e x\/aN t x=.p .undef
 |[],_,x=>.inr rfl
 |(y,v)::t,h,x=>by
  simp only[sd]at h;simp only[aN]
  split
  ·rename_i hx;subst hx;exact .inl h.1.symm
  ·exact sd.get h.2 x
theorem kZ.get:∀{h t:Heap},kZ h t->∀(b:Nat)(o:Obj),t[b]?=some o->o=.hole\/h[b]?=some o
 |_,[],_,b,o,a=>by simp at a
 |[],o'::t,hk,b,o,a=>by
  cases o'<;>simp only[kZ]at hk;cases b with
  |zero=>simp at a;exact .inl a.symm
  |succ b=>exact(kZ.get hk b o (by simpa using a)).imp id (fun h=>by simp at h)
 |c::h,o'::t,hk,b,o,a=>by
  cases b with
  |zero=>
   simp at a;cases o'<;>simp only[kZ]at hk
   case hole=>exact .inl a.symm
   all_goals exact .inr (by rw[<-a,<-hk.1];simp)
  |succ b=>
   have:kZ h t:=by cases o'<;>simp only[kZ]at hk<;>first|exact hk|exact hk.2
   exact(kZ.get this b o (by simpa using a)).imp id (fun h=>by simpa using h)
def jj(H:Heap):Env->Prop
 |[]=>True
 |(_,v)::r=>aC (aH H) v/\jj H r
def eM(H:Heap):Heap->Prop
 |[]=>True
 |o::r=>o.refs (aH H)/\eM H r
theorem jj.get{H:Heap}:∀{e:Env},jj H e->∀x,aC (aH H) (aN e x)
 |[],_,x=>by simp[aN,aC]
 |(y,v)::e,h,x=>by
  simp only[jj]at h;simp only[aN]
  split
  ·exact h.1
  ·exact jj.get h.2 x
theorem eM.get{H:Heap}:∀{h:Heap},eM H h->∀(b:Nat)(o:Obj),h[b]?=some o->o.refs (aH H)
 |[],_,b,o,a=>by simp at a
 |d::h,c,b,o,a=>by
  simp only[eM]at c;cases b with
  |zero=>simp at a;subst a;exact c.1
  |succ b=>exact eM.get c.2 b o (by simpa using a)
theorem pS.of{s t:St}(a:sd s.env t.env)(c:kZ s.heap t.heap)(e:jj t.heap t.env)(f:eM t.heap t.heap):pS s t:=
 ⟨fun x=>(a.get x).imp id .inl,fun b o d=>(c.get b o d).imp id .inl,e.get,f.get⟩
theorem bE.of{N:Nat}{s t:St}(hn:t.heap.take N=s.heap.take N)(c:sd s.env t.env)(d:kZ s.heap t.heap)(hr:jj t.heap t.env)(e:eM t.heap t.heap):bE N s t:=by
 refine .inr ⟨pS.of c d hr e,fun b a=>?_⟩;have:=congrArg (fun l:Heap=>l[b]?) hn;simpa[List.getElem?_take,a]using this
theorem Ro{f:db}{fn:Func}(ag:db->Bool)(h:an P f fn)(b:P.follows .mixedOrders=true){args:List AV}{H H':Heap}{v:AV}(c:args.length<=fn.ntmps)
 (d:cg P ag (fn.ntmps,H.length) (fn.body.getD .skip) (um P fn.results.toList H.length H' v) ⟨jg 0 args,H⟩):bW P f H args H' v:=by
 have hs:=h.stat;simp only[cy,bne_iff_ne]at hs;have a:fn.body=some (fn.body.getD .skip):=by
  have:=hs.1.1;cases e:fn.body<;>simp_all
 exact YV (pf ag) (yD (pf ag) b) h.enters h.func a hs.2 c d
theorem Rp(ag:db->Bool)(f:P.follows .mixedOrders=true){b:Nat}{L:fD}{H H':Heap}{args:List AV}{v:AV}(d:H[b]?=some (.loop L))(e:args.length=L.params.length)
 (a:(L.params.all (fun x=>decide (x<L.n))&&codeOk fit L.n L.assign&&codeOk fit L.n L.body)=true)(g:zh P ag L b args H (fun c h=>h=v/\bE H.length ⟨[],c⟩ ⟨[],H'⟩)):iY P b H args H' v:=by
 simp only[cy,h8,decide_eq_true_eq]at a;exact YT (pf ag) (yD (pf ag) f) d e a.1.1 a.1.2 a.2 g
theorem again{N:Nat}{α:Type}{mk:α->St}{ok:α->Prop}{m:α->Nat}{n:Nat}{s':St}(a':α)(c:m a'<n)(d:ok a')(e:bE N s' (mk a')):∃a b,a<n/\bE N s' b/\∃a',ok a'/\b=mk a'/\a=m a':=
 ⟨m a',mk a',c,e,a',d,rfl,rfl⟩
end
section
variable{P:c8}{ag:db->Bool}
def aQ{α:Type}(F:(α->Prop)->Prop):Prop:=∀K,F K->∃a,K a/\∀b:α->Prop,b a->F b
theorem aQ.one{α β:Type}(f:β->α)(b:β):aQ (fun K:α->Prop=>K (f b)):=fun _ h=>⟨f b,h,fun _ h=>h⟩
theorem aQ.false{α:Type}:aQ (fun _:α->Prop=>False):=fun _ h=>h.elim
theorem aQ.and{α:Type}{p:Prop}{F:(α->Prop)->Prop}(h:aQ F):aQ (fun K=>p/\F K):=fun K hk=>by
 obtain⟨a,c,d⟩:=h K hk.2;exact⟨a,c,fun b h=>⟨hk.1,d b h⟩⟩
theorem aQ.ex{α:Type}{β:Sort _}{F:β->(α->Prop)->Prop}(h:∀b,aQ (F b)):aQ (fun K=>∃b,F b K):=fun K⟨b,f⟩=>by
 obtain⟨a,d,e⟩:=h b K f;exact⟨a,d,fun c h=>⟨b,e c h⟩⟩
theorem aQ.or{α:Type}{F G:(α->Prop)->Prop}(h:aQ F)(e:aQ G):aQ (fun K=>F K\/G K):=fun K hk=>by
 rcases hk with hk|hk
 ·obtain⟨a,c,d⟩:=h K hk;exact⟨a,c,fun b h=>.inl (d b h)⟩
 ·obtain⟨a,c,d⟩:=e K hk;exact⟨a,c,fun b h=>.inr (d b h)⟩
theorem aQ.ite{α:Type}{p:Prop}[Decidable p]{F G:(α->Prop)->Prop}(h:aQ F)(f:aQ G):aQ (fun K=>if p then F K else G K):=fun K hk=>by
 split at hk
 ·rename_i e;obtain⟨a,c,d⟩:=h K hk;exact⟨a,c,fun b h=>by simpa[e]using d b h⟩
 ·rename_i e;obtain⟨a,c,d⟩:=f K hk;exact⟨a,c,fun b h=>by simpa[e]using d b h⟩
theorem aQ.bind{α β:Type}{F:(α->Prop)->Prop}{G:α->(β->Prop)->Prop}(h:aQ F)(d:∀a,aQ (G a)):aQ (fun K=>F (fun a=>G a K)):=fun K hk=>by
 obtain⟨a,e,f⟩:=h _ hk;obtain⟨b,g,i⟩:=d a K e;exact⟨b,g,fun c h=>f _ (i c h)⟩
theorem aQ.map{α β:Type}{F:(α->Prop)->Prop}(h:aQ F)(f:α->β):aQ (fun K=>F (fun a=>K (f a))):=h.bind fun a=>aQ.one f a
theorem Xy(T:c7)(H:Heap)(a:AV):aQ (oK P T H a):=by
 unfold oK
 repeat' first
  |exact aQ.false
  |exact aQ.one id _
  |refine aQ.and ?_
  |refine aQ.ex fun _=>?_
  |split
theorem Xc(T:c7)(H:Heap)(a x:AV):aQ (ov P T H a x):=by
 unfold ov
 repeat' first
  |exact aQ.false
  |exact aQ.one id _
  |refine aQ.and ?_
  |refine aQ.ex fun _=>?_
  |split
theorem U7(T:c7)(a:AV)(f:Nat):aQ (n7 P T a f):=by
 unfold n7
 repeat' first
  |exact aQ.false
  |exact aQ.one id _
  |refine aQ.and ?_
  |refine aQ.ex fun _=>?_
  |split
theorem U6(T:c7)(H:Heap)(a i:AV):aQ (n6 P T H a i):=by
 unfold n6
 repeat' first
  |exact aQ.false
  |exact aQ.one id _
  |refine aQ.and ?_
  |refine aQ.ex fun _=>?_
  |split
theorem VN(T X:c7)(H:Heap)(s x:AV):aQ (oc P T X H s x):=by
 unfold oc
 repeat' first
  |exact aQ.false
  |exact aQ.one id _
  |refine aQ.and ?_
  |refine aQ.ex fun _=>?_
  |refine aQ.ite ?_ ?_
  |split
theorem Ml{α:Type}{F:Nat->(α->Prop)->Prop}(x:Option AV)(d:Nat)(h:∀n,aQ (F n)):aQ (fun K=>gT x d (fun n=>F n K)):=by
 unfold gT
 split
 ·exact h _
 ·exact aQ.and (h _)
 ·exact aQ.false
theorem Xd(T:c7)(H:Heap)(x:AV)(lo hi a:Option AV):aQ (ow P T H x lo hi a):=by
 unfold ow;refine aQ.and ?_
 repeat' first
  |exact aQ.false
  |exact aQ.one id _
  |refine aQ.and ?_
  |refine Ml _ _ fun _=>?_
  |refine aQ.ite ?_ ?_
  |split
theorem VM(T:c7)(H:Heap)(x:AV)(lo hi:Option AV)(m:AV):aQ (qP P T H x lo hi m):=by
 unfold qP
 repeat' first
  |exact aQ.false
  |exact aQ.one id _
  |refine aQ.and ?_
  |refine Ml _ _ fun _=>?_
  |split
theorem Yr(op:dl)(T:c7)(c:Bool)(H:Heap)(x y:AV)(f:PV->aU):aQ (fun K:aU->Prop=>kY P op T c H x y (fun v=>K (f v))):=by
 unfold kY
 repeat' first
  |exact aQ.false
  |exact aQ.one f _
  |refine aQ.and ?_
  |(unfold pW;split)
  |(unfold pV;split)
  |split
theorem TU(a:c7)(b:Nat)(key:PV)(x:AV)(c:Obj):aQ (mU P a b key x c):=by
 unfold mU
 repeat' first
  |exact aQ.false
  |exact aQ.one id _
  |refine aQ.and ?_
  |split
theorem Dq(o:Oper)(ρ:c6->AV)(H:Heap):aQ (fC P ag o ρ H):=by
 unfold fC
 repeat' first
  |exact aQ.false
  |exact aQ.one id _
  |exact Xy _ _ _
  |exact Xc _ _ _ _
  |exact U7 _ _ _
  |exact U6 _ _ _ _
  |exact Xd _ _ _ _ _ _
  |exact VM _ _ _ _ _ _
  |exact VN _ _ _ _ _
  |exact TU _ _ _ _ _
  |exact Yr _ _ _ _ _ _ _
  |refine aQ.and ?_
  |refine aQ.ex fun _=>?_
  |refine aQ.ite ?_ ?_
  |refine aQ.or ?_ ?_
  |split
  |dsimp only
theorem Lq(d:Bool)(f:db)(args:List AV)(H:Heap){α:Type}(g:AV->Heap->α):aQ (fun K:α->Prop=>ij P d f args H (fun v H'=>K (g v H'))):=by
 unfold ij;refine aQ.or (aQ.ex fun vs=>aQ.ex fun v=>aQ.and (aQ.and ?_)) (aQ.and (aQ.or (aQ.ex fun vs=>aQ.ex fun H1=>aQ.ex fun v=>aQ.and (aQ.and ?_)) (aQ.or (aQ.ex fun H'=>aQ.ex fun v=>aQ.and ?_) (aQ.or (aQ.ex fun e=>aQ.and (aQ.and ?_)) (aQ.ex fun ak=>aQ.ex fun v=>aQ.and (aQ.and ?_))))))
 ·exact aQ.one (fun v=>g (.p v) H) v
 ·exact aQ.one (fun v=>g (.p v) H1) v
 ·exact aQ.one (fun v=>g v H') v
 ·exact aQ.one (fun _:Unit=>g e.v (aW H e.aG++e.aS)) ()
 ·exact aQ.one (fun v=>g (.p v) H) v
theorem KF(f:db)(args:List AV)(H:Heap):aQ (iw P f args H):=by
 unfold iw;refine aQ.or (aQ.ex fun vs=>aQ.ex fun v=>aQ.and (aQ.and (aQ.one id _))) (aQ.or (aQ.ex fun vs=>aQ.ex fun bs=>aQ.ex fun ak=>aQ.ex fun aG=>aQ.ex fun v=>aQ.and (aQ.and (aQ.and (aQ.one id _)))) (aQ.or (aQ.ex fun e=>aQ.and (aQ.and (aQ.one id _))) (aQ.ex fun ak=>aQ.ex fun v=>aQ.and (aQ.and (aQ.one id _)))))
theorem Lo(d:Bool)(o:Oper)(s:St):aQ (fun K=>kj P ag d o K s):=by
 unfold kj
 split
 ·split
  ·exact Lq _ _ _ _ (fun v H'=>(⟨put o.dst v s.env,H'⟩:St))
  ·exact Lq _ _ _ _ (fun v H'=>(⟨put o.dst v s.env,H'⟩:St))
  ·exact aQ.ex fun H'=>aQ.ex fun v=>aQ.and (aQ.one (fun _:Unit=>(⟨put o.dst v s.env,H'⟩:St)) ())
  ·exact aQ.false
 ·exact(Dq o _ _).map (fun e=>e.app o.dst s)
theorem Lp(o:Oper)(s:St):aQ (jT P ag o s):=by
 unfold jT
 split
 ·split
  ·exact KF _ _ _
  ·exact KF _ _ _
  ·exact aQ.ex fun e=>aQ.and (aQ.and (aQ.one id _))
  ·exact aQ.false
 ·exact Dq o _ _
theorem y7(d:Bool)(a:Array Oper):∀(l:List Oper)(s:St),aQ (fun K=>iq P ag d a l K s)
 |[],s=>by simp only[iq];exact aQ.one id s
 |o::l,s=>by
  have go:aQ (fun K=>kj P ag d o (iq P ag d a l K) s):=(Lo d o s).bind fun t=>y7 d a l t;simp only[iq]
  split
  ·exact go
  ·split
   ·split
    ·exact go
    ·exact y7 d a l _
   ·exact y7 d a l _
   ·exact aQ.false
theorem yP(b:Array Oper):∀(l:List Oper)(i:Nat)(a:List Touch)(s:St),aQ (fun K=>gI P ag b l i a K s)
 |[],i,a,s=>by simp only[gI];exact aQ.and (aQ.one id s)
 |o::l,i,a,s=>by
  have go:aQ (fun K=>jT P ag o s fun e=>gI P ag b l (i+1) (im i s.heap.length e a) K (e.app o.dst s)):=(Lp o s).bind fun e=>yP b l (i+1) _ _;simp only[gI]
  split
  ·exact go
  ·split
   ·split
    ·exact go
    ·exact yP b l (i+1) a _
   ·exact yP b l (i+1) a _
   ·exact aQ.false
def Ao(F:(bw->St->Prop)->Prop):Prop:=∀Q,F Q->∃e s,Q e s/\∀a:bw->St->Prop,a e s->F a
inductive wO(P:c8)(ag:db->Bool)(q:Cx)(b:Code)(e:bw)(s:St):Nat->St->Prop
 |stop {k:Nat} {u:St}:(∀Q:bw->St->Prop,Q e s->cg P ag q b Q u)->e≠.normal->wO P ag q b e s k u
 |step {k m:Nat} {u s1 u':St}:(∀Q:bw->St->Prop,Q .normal s1->cg P ag q b Q u)->m<k->bE q.2 s1 u'->wO P ag q b e s m u'->wO P ag q b e s k u
theorem Xz(j:Option Code)(s:St):Ao (fun Q=>kX Q j s):=fun Q h=>by
 unfold kX at h
 split at h
 ·exact⟨.normal,s,h,fun _ h=>h⟩
 ·rename_i id;exact⟨.exit id,s,h,fun _ h=>h⟩
 ·exact⟨.ret,s,h,fun _ h=>h⟩
 ·exact h.elim
theorem Ln(b:Nat)(env:Env)(H:Heap):Ao (fun Q=>jy b env Q H):=fun Q h=>by
 unfold jy at h
 split at h
 ·rename_i L f;obtain⟨e,s,c,d⟩:=Xz _ _ Q h.2;exact⟨e,s,c,fun a hq=>by unfold jy;simp only[f];exact⟨h.1,d a hq⟩⟩
 ·exact h.elim
theorem Xk(it:AV)(b:Nat)(H:Heap)(env:Env):Ao (fun Q=>kz P it b H (jy b env Q)):=fun Q h=>by
 unfold kz at h
 split at h
 ·obtain⟨H',v,c,d⟩:=h;obtain⟨e,s,k1,k2⟩:=Ln b env H' Q d;exact⟨e,s,k1,fun a hq=>by simp only[kz];exact⟨H',v,c,k2 a hq⟩⟩
 ·obtain⟨H',v,c,d⟩:=h;obtain⟨e,s,k1,k2⟩:=Ln b env H' Q d;exact⟨e,s,k1,fun a hq=>by simp only[kz];exact⟨H',v,c,k2 a hq⟩⟩
 ·exact h.elim
theorem nY{q:Cx}:∀(c:Code)(s:St),Ao (fun Q=>cg P ag q c Q s)
 | .skip,s| .label _,s=>fun Q h=>⟨.normal,s,h,fun _ h=>h⟩
 | .exit id,s=>fun Q h=>⟨.exit id,s,h,fun _ h=>h⟩
 | .ret,s=>fun Q h=>⟨.ret,s,h,fun _ h=>h⟩
 | .region id ops draw,s=>fun Q h=>by
  simp only[cg]at h⊢
  split at h
  ·rename_i l;obtain⟨t,d,g⟩:=yP ops _ _ _ _ _ h;exact⟨.normal,t,d,fun Q' h=>by simp only[l,if_true];exact g _ h⟩
  ·rename_i l;obtain⟨t,d,g⟩:=y7 _ ops _ _ _ h;exact⟨.normal,t,d,fun Q' h=>by rw[if_neg l];exact g _ h⟩
 | .seq a b,s=>fun Q h=>by
  simp only[cg]at h⊢;obtain⟨e,t,d,g⟩:=nY a s _ h;cases e with
  |normal=>
   obtain⟨e',r,k,y⟩:=nY b t _ d;exact⟨e',r,k,fun Q' h=>g _ (y Q' h)⟩
  |exit id=>exact⟨.exit id,t,d,fun Q' h=>g _ h⟩
  |ret=>exact⟨.ret,t,d,fun Q' h=>g _ h⟩
 | .cond c a b,s=>fun Q h=>by
  simp only[cg]at h⊢
  split at h
  ·split at h
   ·rename_i p;obtain⟨e,t,d,g⟩:=nY a s _ h;exact⟨e,t,d,fun Q' h=>by rw[if_pos p];exact g _ h⟩
   ·rename_i p;obtain⟨e,t,d,g⟩:=nY b s _ h;exact⟨e,t,d,fun Q' h=>by rw[if_neg p];exact g _ h⟩
  ·exact h.elim
 | .block id b,s=>fun Q h=>by
  simp only[cg]at h⊢;obtain⟨e,t,d,g⟩:=nY b s _ h;cases e with
  |normal=>exact⟨.normal,t,d,fun Q' h=>g _ h⟩
  |exit i=>
   by_cases hi:i=id
   ·simp only[hi,if_true]at d;exact⟨.normal,t,d,fun Q' h=>g _ (by simp only[hi,if_true];exact h)⟩
   ·simp only[hi,if_false]at d;exact⟨.exit i,t,d,fun Q' h=>g _ (by simp only[hi,if_false];exact h)⟩
  |ret=>exact⟨.ret,t,d,fun Q' h=>g _ h⟩
 | .scope b,s=>fun Q h=>by simp only[cg]at h⊢;exact nY b s Q h
 | .loop b,s=>fun Q h=>by
  simp only[cg]at h⊢;obtain⟨I,⟨w,t0,hf,hI⟩,E⟩:=h;have key:∀(n:Nat)(t:St),I n t->∃e u,Q e u/\e≠.normal/\wO P ag q b e u n t:=by
   intro n
   induction n using li with
   |_ n F=>
    intro t hI;obtain⟨e,s1,d,g⟩:=nY b t _ (E n t hI);cases e with
    |normal=>
     obtain⟨m,r,j,o,z⟩:=d;obtain⟨e,u,k1,k2,k3⟩:=F m j r z;exact⟨e,u,k1,k2,.step g j o k3⟩
    |exit id=>exact⟨.exit id,s1,d,s_,.stop g s_⟩
    |ret=>exact⟨.ret,s1,d,s_,.stop g s_⟩
  obtain⟨e,u,d,g,k⟩:=key w t0 hI;refine⟨e,u,d,fun Q' v=>⟨wO P ag q b e u,⟨w,t0,hf,k⟩,?_⟩⟩;intro n t hl;cases hl with
  |stop hs D=>
   refine hs _ ?_;cases e with
   |normal=>exact(D rfl).elim
   |exit id=>exact v
   |ret=>exact v
  |step hs j o C=>exact hs _ ⟨_,_,j,o,C⟩
 | .rangeFunc f G a b,s=>fun Q h=>by
  simp only[cg]at h;obtain⟨A,x,B,h⟩:=h;obtain⟨e,t,d,g⟩:=Xk _ _ _ _ Q h;exact⟨e,t,d,fun Q' hq=>by simp only[cg];exact⟨A,x,B,g Q' hq⟩⟩
 | .goto _,_| .refuse _,_=>fun Q h=>by simp[cg]at h
def Spec(P:c8)(f:db)(args:List PV)(Q:PV->Prop):Prop:=∃v,aA P f args v/\Q v
def Ar(P:c8)(a:List ec)(Q:PV->Prop)(e:bw)(s:St):Prop:=
 (match e with
  | .exit _=>False
  |_=>True)/\∃vs,fS P s a=some vs/\∃v,eD s.heap 9 (oneOf vs)=some v/\Q v
theorem Spec.mono{f:db}{args:List PV}{Q a:PV->Prop}(h:Spec P f args Q)(hq:∀v,Q v->a v):Spec P f args a:=by
 obtain⟨v,b,c⟩:=h;exact⟨v,b,hq v c⟩
end
def oI(id:Nat)(Q:bw->St->Prop)(e:bw)(s:St):Prop:=
 match e with
 | .exit i=>if i=id then Q .normal s else Q (.exit i) s
 |e=>Q e s
theorem Vl{id:Nat}{Q:bw->St->Prop}{s:St}:oI id Q .normal s=Q .normal s:=(rfl)
theorem WA{id i:Nat}{Q:bw->St->Prop}{s:St}:oI id Q (.exit i) s=if i=id then Q .normal s else Q (.exit i) s:=(rfl)
theorem XB{id:Nat}{Q:bw->St->Prop}{s:St}:oI id Q .ret s=Q .ret s:=(rfl)
def uc(N n:Nat)(I:Nat->St->Prop)(Q:bw->St->Prop)(e:bw)(s:St):Prop:=
 match e with
 | .normal=>∃a b,a<n/\bE N s b/\I a b
 |e=>Q e s
theorem Vb{N n:Nat}{I:Nat->St->Prop}{Q:bw->St->Prop}{s:St}:uc N n I Q .normal s=∃a b,a<n/\bE N s b/\I a b:=(rfl)
theorem VQ{N n id:Nat}{I:Nat->St->Prop}{Q:bw->St->Prop}{s:St}:uc N n I Q (.exit id) s=Q (.exit id) s:=(rfl)
theorem Xg{N n:Nat}{I:Nat->St->Prop}{Q:bw->St->Prop}{s:St}:uc N n I Q .ret s=Q .ret s:=(rfl)
section EL
variable{P:c8}
end EL
section
variable{P:c8}{ag:db->Bool}
abbrev eE:=Option (Prop×aU)
def bf(r:eE)(K:aU->Prop):Prop:=
 match r with
 |some (p,e)=>p/\K e
 |none=>False
theorem Xp{p:Prop}{e:aU}{K:aU->Prop}:bf (some (p,e)) K=(p/\K e):=(rfl)
theorem XX{K:aU->Prop}:bf none K=False:=(rfl)
@[congr] theorem aO2{r a:eE}{K:aU->Prop}(h:r=a):bf r K=bf a K:=by rw[h]
def Can(F:(aU->Prop)->Prop)(r:eE):Prop:=∀K,bf r K->F K
theorem Can.none{F:(aU->Prop)->Prop}:Can F none:=fun _ h=>h.elim
def pX(P:c8)(T:c7)(H:Heap)(a:AV):eE:=
 match a with
 | .ptr b path=>match H[b]? with
  |some (.box fz t)=>match fc t path with
   |some s=>some (kindOf P T=ad s,{v:=s,ak:=[(b,.box fz t)]})
   |none=>none
  |_=>none
 | .b8 b aq ai i path=>match H[b]? with
  |some (.arr k d c es)=>match es[i]? with
   |some x=>match fc x path with
    |some s=>some ((aq=d/\ai=c)/\kindOf P T=ad s,{v:=s,ak:=[(b,.arr k d c es)]})
    |none=>none
   |none=>none
  |_=>none
 | .p (.cA t)=>some (kindOf P T=aL t,{v:=.p t})
 |_=>none
theorem ZZ{T:c7}{H:Heap}{a:AV}:Can (oK P T H a) (pX P T H a):=by
 intro K h;unfold pX at h;unfold oK
 split at h
 ·split at h
  ·rename_i b
   split at h
   ·rename_i hs;simp only[bf]at h;simp only[b,hs];exact h
   ·exact h.elim
  ·exact h.elim
 ·split at h
  ·rename_i b
   split at h
   ·rename_i x hx;obtain⟨hi,hx⟩:=hQ.1 hx
    split at h
    ·rename_i hs;simp only[bf]at h;simp only[b];exact⟨h.1.1.1,h.1.1.2,hi,by rw[hx,hs];exact⟨h.1.2,h.2⟩⟩
    ·exact h.elim
   ·exact h.elim
  ·exact h.elim
 ·exact h
 ·exact h.elim
def pN(P:c8)(T:c7)(H:Heap)(a x:AV):eE:=
 match a with
 | .ptr b path=>match H[b]? with
  |some (.box false t)=>match fc t path,gn t path x with
   |some s,some d=>some ((kindOf P T=ad x/\ad x≠.bad)/\ad s=ad x,{v:=.p (.aE []),ak:=[(b,.box false t)],aG:=[(b,.box false d)]})
   |_,_=>none
  |_=>none
 | .b8 b aq ai i path=>match H[b]? with
  |some (.arr k e c es)=>match es[i]? with
   |some y=>match fc y path,gn y path x with
    |some s,some d=>some ((kindOf P T=ad x/\ad x≠.bad)/\(aq=e/\ai=c/\k≠.frozen)/\ad s=ad x,{v:=.p (.aE []),ak:=[(b,.arr k e c es)],aG:=[(b,.arr k e c (es.set i d))]})
    |_,_=>none
   |none=>none
  |_=>none
 |_=>none
theorem YM{T:c7}{H:Heap}{a x:AV}:Can (ov P T H a x) (pN P T H a x):=by
 intro K h;unfold pN at h;unfold ov
 split at h
 ·split at h
  ·rename_i b
   split at h
   ·rename_i hs c;simp only[bf]at h;simp only[b,hs,c];exact⟨h.1.1.1,h.1.1.2,h.1.2,h.2⟩
   ·exact h.elim
  ·exact h.elim
 ·split at h
  ·rename_i b
   split at h
   ·rename_i y d;obtain⟨hi,d⟩:=hQ.1 d
    split at h
    ·rename_i hs c;simp only[bf]at h;simp only[b];exact⟨h.1.1.1,h.1.1.2,h.1.2.1.1,h.1.2.1.2.1,h.1.2.1.2.2,hi,by rw[d,hs,c];exact⟨h.1.2.2,h.2⟩⟩
    ·exact h.elim
   ·exact h.elim
  ·exact h.elim
 ·exact h.elim
def po(P:c8)(T:c7)(a:AV)(f:Nat):eE:=
 match fU P T with
 |some (u,n)=>match a with
  | .ptr b path=>some (f<n,{v:=.ptr b (path++[(u,f)])})
  | .b8 b aq ai i path=>some (f<n,{v:=.b8 b aq ai i (path++[(u,f)])})
  | .p (.cA t)=>match(cH t)[f]? with
   |some g=>some (f<n/\aL t=.agg u,{v:=.p (.cA g)})
   |none=>none
  |_=>none
 |_=>none
theorem Vi{T:c7}{a:AV}{f:Nat}:Can (n7 P T a f) (po P T a f):=by
 intro K h;unfold po at h;unfold n7
 split at h
 ·rename_i hs;simp only[hs]
  split at h
  ·exact h
  ·exact h
  ·split at h
   ·rename_i b;simp only[bf]at h;simp only[b];exact⟨h.1.1,h.1.2,h.2⟩
   ·exact h.elim
  ·exact h.elim
 ·exact h.elim
def pn(P:c8)(T:c7)(H:Heap)(x i:AV):eE:=
 match i with
 | .p (.int _ i)=>match x with
  | .p (.bJ _ es)=>match es[i.toNat]? with
   |some y=>some (0<=i/\cV P T=some (bG P (aL y)),{v:=.p (.cA y)})
   |none=>none
  | .p (.seq es)=>match es[i.toNat]? with
   |some y=>some (0<=i/\cV P T=some (bG P (aL y)),{v:=.p (.cA y)})
   |none=>none
  | .sl b aq ai off len=>match H[b]? with
   |some (.arr k c a es)=>some (0<=i/\cV P T=some ai/\i.toNat<len/\aq=c/\ai=a/\¬(k.gr=true/\es=[]),{v:=.b8 b aq ai (off+i.toNat) [],ak:=[(b,.arr k c a es)]})
   |_=>none
  | .ptr b path=>match iA P T with
   |some (u,n)=>some (0<=i/\i.toNat<n,{v:=.ptr b (path++[(u,i.toNat)])})
   |_=>none
  | .b8 b aq ai j path=>match iA P T with
   |some (u,n)=>some (0<=i/\i.toNat<n,{v:=.b8 b aq ai j (path++[(u,i.toNat)])})
   |_=>none
  | .p (.cA t)=>match iA P T with
   |some (u,n)=>match(cH t)[i.toNat]? with
    |some g=>some (0<=i/\aL t=.agg u/\i.toNat<n,{v:=.p (.cA g)})
    |none=>none
   |_=>none
  |_=>none
 |_=>none
theorem Vh{T:c7}{H:Heap}{x i:AV}:Can (n6 P T H x i) (pn P T H x i):=by
 intro K h;unfold pn at h;unfold n6
 split at h
 case h_2=>exact h.elim
 split at h
 ·split at h
  ·rename_i y a;obtain⟨hi,a⟩:=hQ.1 a;simp only[bf]at h;exact⟨h.1.1,hi,by rw[a];exact h.1.2,by rw[a];exact h.2⟩
  ·exact h.elim
 ·split at h
  ·rename_i y a;obtain⟨hi,a⟩:=hQ.1 a;simp only[bf]at h;exact⟨h.1.1,hi,by rw[a];exact h.1.2,by rw[a];exact h.2⟩
  ·exact h.elim
 ·split at h
  ·rename_i l;simp only[bf]at h;obtain⟨⟨b,c,d,e,f,g⟩,j⟩:=h;refine⟨b,c,d,?_⟩;rw[l];exact⟨e,f,g,j⟩
  ·exact h.elim
 ·split at h
  ·rename_i hs;simp only[bf]at h;simp only[hs];exact⟨h.1.1,h.1.2,h.2⟩
  ·exact h.elim
 ·split at h
  ·rename_i hs;simp only[bf]at h;simp only[hs];exact⟨h.1.1,h.1.2,h.2⟩
  ·exact h.elim
 ·split at h
  ·rename_i hs
   split at h
   ·rename_i k;simp only[bf]at h;simp only[hs,k];exact⟨h.1.1,h.1.2.1,h.1.2.2,h.2⟩
   ·exact h.elim
  ·exact h.elim
 ·exact h.elim
end
section
variable{P:c8}{ag:db->Bool}
def pM(P:c8)(T X:c7)(H:Heap)(s x:AV):eE:=
 match cV P T,ib H x with
 |some sz,some xs=>match s with
  | .p .aK=>some ((iy P X=true/\(cK P (dW P T)).isSome=true/\fk P sz xs)/\xs.length<=cM,
   if xs.isEmpty then{v:=s,ak:=dH H x}else{v:=.sl H.length 0 sz 0 xs.length,ak:=dH H x,aS:=[.arr (gk P T) 0 sz xs]})
  | .sl b aq ai off len=>match H[b]? with
   |some (.arr k c a es)=>some ((iy P X=true/\(cK P (dW P T)).isSome=true/\fk P sz xs)/\(aq=c/\ai=a/\ai=sz/\off+len<=es.length)/\es.length+xs.length<=cM/\k≠ .frozen/\(k≠ .exact->off=0)/\(k= .bytes->dW P T=Gl.u8),
    if xs.isEmpty then{v:=s,ak:=(b,.arr k c a es)::dH H x}
    else match k with
     | .exact=>if off+len+xs.length<=es.length then
      {v:=.sl b aq ai off (len+xs.length),ak:=(b,.arr k c a es)::dH H x,aG:=[(b,.arr .exact aq ai (es.take (off+len)++xs++es.drop (off+len+xs.length)))]}
      else{v:=.sl H.length 0 sz 0 (len+xs.length),ak:=(b,.arr k c a es)::dH H x,aS:=[.arr (gk P T) 0 sz ((es.drop off).take len++xs)]}
     |_=>{v:=.sl b (aq+1) ai 0 (len+xs.length),ak:=(b,.arr k c a es)::dH H x,aG:=[(b,.arr k (aq+1) ai (es.take len++xs))]})
   |_=>none
  |_=>none
 |_,_=>none
theorem WG{T X:c7}{H:Heap}{s x:AV}:Can (oc P T X H s x) (pM P T X H s x):=by
 intro K h;unfold pM at h;unfold oc
 split at h
 case h_2=>exact h.elim
 rename_i sz p i j;simp only[i,j]
 split at h
 ·simp only[bf]at h;obtain⟨⟨⟨b,a2,a3⟩,a4⟩,hk⟩:=h;refine⟨b,a2,a3,?_⟩;dsimp only
  split
  ·rename_i a;rw[if_pos a]at hk;exact hk
  ·rename_i a;rw[if_neg a]at hk;exact⟨a4,hk⟩
 ·split at h
  case h_2=>exact h.elim
  rename_i k o n m l;simp only[bf]at h;obtain⟨⟨⟨b,a2,a3⟩,⟨rfl,rfl,e,f⟩,g,a9,c,d⟩,hk⟩:=h;refine⟨b,a2,a3,?_⟩;simp only[l];refine⟨trivial,trivial,e,f,?_⟩
  split
  ·rename_i a;rw[if_pos a]at hk;exact hk
  ·rename_i a;rw[if_neg a]at hk;refine⟨g,?_⟩;cases k with
   |frozen=>exact a9 rfl
   |exact=>
    simp only at hk⊢
    split
    ·rename_i hc;rw[if_pos hc]at hk;exact hk
    ·rename_i hc;rw[if_neg hc]at hk;exact hk
   |grow=>exact⟨c s_,fun h=>(by cases h),hk⟩
   |bytes=>exact⟨c s_,d,hk⟩
 ·exact h.elim
def lj(x:Option AV)(d:Nat):Option (Prop×Nat):=
 match x with
 |none=>some (True,d)
 |some (.p (.int _ i))=>some (0<=i,i.toNat)
 |_=>none
theorem ng{x:Option AV}{d n:Nat}{p:Prop}{K:Nat->Prop}(h:lj x d=some (p,n))(a:p)(hk:K n):gT x d K:=by
 unfold lj at h;unfold gT
 split at h
 ·simp only[lw,l1]at h;obtain⟨rfl,rfl⟩:=h;exact hk
 ·simp only[lw,l1]at h;obtain⟨rfl,rfl⟩:=h;exact⟨a,hk⟩
 ·cases h
def pP(P:c8)(T:c7)(H:Heap)(x:AV)(lo hi:Option AV):eE:=
 match x with
 | .p (.str s)=>match lj hi s.length,lj lo 0 with
  |some (p,h),some (q,l)=>some (iW P T=true/\p/\q/\h<=s.length/\l<=h,{v:=.p (.str ((s.take h).drop l))})
  |_,_=>none
 | .p .aK=>match lj hi 0,lj lo 0 with
  |some (p,h),some (q,l)=>some ((cV P T).isSome=true/\p/\q/\h<=0/\l<=h,{v:=.p .aK})
  |_,_=>none
 | .p (.bJ full es)=>match lj hi es.length,lj lo 0,cV P T with
  |some (p,h),some (q,l),some sz=>some (p/\q/\h<=es.length/\l<=h/\fk P sz (es.map .p),{v:=.p (.bJ (full&&h==es.length) ((es.take h).drop l))})
  |_,_,_=>none
 | .p (.seq es)=>match lj hi es.length,lj lo 0,cV P T with
  |some (p,h),some (q,l),some sz=>some (p/\q/\h<=es.length/\l<=h/\fk P sz (es.map .p),{v:=.p (.seq ((es.take h).drop l))})
  |_,_,_=>none
 | .sl b aq ai off len=>match H[b]? with
  |some (.arr k c a es)=>match lj hi len,lj lo 0 with
   |some (p,h),some (q,l)=>some ((aq=c/\ai=a/\cV P T=some ai/\¬(k.gr=true/\es=[])/\off+len<=es.length)/\p/\q/\off+h<=es.length/\l<=h,
    if l=0 then{v:=.sl b aq ai off h,ak:=[(b,.arr k c a es)]}
    else if l=h then{v:=.p (.bJ false []),ak:=[(b,.arr k c a es)]}
    else{v:=.sl b aq ai (off+l) (h-l),ak:=[(b,.arr k c a es)]})
   |_,_=>none
  |_=>none
 |_=>none
theorem YN{T:c7}{H:Heap}{x:AV}{lo hi:Option AV}:Can (ow P T H x lo hi none) (pP P T H x lo hi):=by
 intro K h;unfold pP at h;unfold ow;refine⟨rfl,?_⟩
 split at h
 ·split at h
  case h_2=>exact h.elim
  rename_i a b;simp only[bf]at h;obtain⟨⟨c,a2,a3,a4,a5⟩,hk⟩:=h;exact⟨c,ng a a2 (ng b a3 ⟨a4,a5,hk⟩)⟩
 ·split at h
  case h_2=>exact h.elim
  rename_i a b;simp only[bf]at h;obtain⟨⟨c,a2,a3,a4,a5⟩,hk⟩:=h;exact⟨c,ng a a2 (ng b a3 ⟨a4,a5,hk⟩)⟩
 ·split at h
  case h_2=>exact h.elim
  rename_i a b e;simp only[bf]at h;obtain⟨⟨a2,a3,a4,a5,d⟩,hk⟩:=h;refine ng a a2 (ng b a3 ⟨a4,a5,?_⟩);simp only[e];exact⟨d,hk⟩
 ·split at h
  case h_2=>exact h.elim
  rename_i a b e;simp only[bf]at h;obtain⟨⟨a2,a3,a4,a5,d⟩,hk⟩:=h;refine ng a a2 (ng b a3 ⟨a4,a5,?_⟩);simp only[e];exact⟨d,hk⟩
 ·split at h
  case h_2=>exact h.elim
  rename_i i
  split at h
  case h_2=>exact h.elim
  rename_i a b;simp only[bf]at h;obtain⟨⟨⟨c,a2,a3,a4,a5⟩,d,f,g,a9⟩,hk⟩:=h;simp only[i];refine⟨c,a2,a3,a4,a5,ng a d (ng b f ⟨g,a9,?_⟩)⟩
  split
  ·rename_i hc;rw[if_pos hc]at hk;exact hk
  ·rename_i hc;rw[if_neg hc]at hk
   split
   ·rename_i hc;rw[if_pos hc]at hk;exact hk
   ·rename_i hc;rw[if_neg hc]at hk;exact hk
 ·exact h.elim
def rO(P:c8)(T:c7)(H:Heap)(x key:AV)(ok:Bool):eE:=
 match jP P T,key with
 |some (a,E),.p key=>match cK P E with
  |some z=>match x with
   | .p .fM=>some (fj P a key=true,{v:=.p (if ok then .aE [z,.bool false]else z)})
   | .p (.fq es)=>match gu P a es key with
    |some r=>some (fj P a key=true,{v:= .p (match r with
      |some v=>if ok then .aE [v,.bool true]else v
      |none=>if ok then .aE [z,.bool false]else z)})
    |none=>none
   | .map b=>match H[b]? with
    |some (.map fz es)=>match gu P a es key with
     |some r=>some (fj P a key=true,{v:= .p (match r with
       |some v=>if ok then .aE [v,.bool true]else v
       |none=>if ok then .aE [z,.bool false]else z),ak:=[(b,.map fz es)]})
     |none=>none
    |some (.cQ ks vs)=>match jW P a ks vs key with
     |some r=>some (fj P a key=true/\lN key=true,{v:=nS ok z r,ak:=[(b,.cQ ks vs)]})
     |none=>none
    |_=>none
   |_=>none
  |none=>none
 |_,_=>none
def xm(P:c8)(a:c7)(b:Nat)(key:PV)(x:AV)(o:Obj):eE:=
 match o9 o with
 |some (ks,vs)=>match jW P a ks vs key with
  |some none=>some (fj P a key=true/\lN key=true,{v:=.p (.aE []),ak:=[(b,o)],aG:=[(b,.cQ (ks++[key]) (vs++[x]))]})
  |_=>none
 |none=>none
def mH(P:c8)(T:c7)(H:Heap)(m k x:AV):eE:=
 match jP P T,m,k,x with
 |some (a,_),.map b,.p key,.p v=>match H[b]? with
  |some (.map false es)=>match mu P a es key with
   |some _=>some (fj P a key=true,{v:=.p (.aE []),ak:=[(b,.map false es)],aG:=[(b,.map false (gS es key v))]})
   |none=>none
  |some (.cQ ks vs)=>xm P a b key (.p v) (.cQ ks vs)
  |_=>none
 |some (a,_),.map b,.p key,x=>match H[b]? with
  |some o=>xm P a b key x o
  |none=>none
 |_,_,_,_=>none
def ry(P:c8)(T:c7)(n:Nat)(x:AV):eE:=
 match x with
 | .p (.str s)=>some (iW P T=true,{v:=.ptr n [],aS:=[.dD s 0]})
 |_=>none
def rW(H:Heap)(it:AV):eE:=
 match it with
 | .ptr b []=>match H[b]? with
  |some (.dD s pos)=>some (True,if pos<s.length then
   {v:=.p (.aE [.bool true,.int .i64 pos,.int .i32 (hL (gM s) pos).1]),ak:=[(b,.dD s pos)],aG:=[(b,.dD s (pos+(hL (gM s) pos).2))]}
   else{v:=.p (.aE [.bool false]),ak:=[(b,.dD s pos)]})
  |_=>none
 |_=>none
def rY(P:c8)(T:c7)(n:Nat)(l c:AV):eE:=
 match cV P T,cK P (dW P T),l,c with
 |some sz,some z,.p (.int .i64 l),.p (.int .i64 c)=>some (bG P (aL z)=sz/\0<=l/\l=c/\l<=cM,{v:=.sl n 0 sz 0 l.toNat,aS:=[.arr .exact 0 sz (hT l.toNat (.p z))]})
 |_,_,_,_=>none
def copyV(P:c8)(T:c7)(H:Heap)(d x:AV):eE:=
 match cV P T,d,ib H x with
 |some sz,.sl b aq ai off len,some xs=>match H[b]? with
  |some (.arr k c a es)=>some ((ai=sz/\fk P sz xs)/\aq=c/\ai=a/\k≠ .frozen/\off+len<=es.length/\¬(k.gr=true/\es=[]),
   {v:=.p (.int .i64 (min xs.length len:Nat)),ak:=(b,.arr k c a es)::dH H x,aG:=[(b,.arr k c a (es.take off++xs.take (min xs.length len)++es.drop (off+min xs.length len)))]})
  |_=>none
 |_,_,_=>none
def rj(x:AV):eE:=
 match x with
 | .ptr _ _| .b8 _ _ _ _ _| .p (.cA _)=>some (True,{v:=x})
 |_=>none
def ly(b:Bool)(c:List AV):eE:=
 match c with
 | .p (.int k a)::r=>match mh k b r a with
  |some n=>some (True,{v:=.p (.int k n)})
  |none=>none
 |_=>none
def rM(f:db)(fi ca:List AV):eE:=
 match eZ fi,eZ ca with
 |some a,some b=>some (True,{v:=.p (.func f a b)})
 |_,_=>some (True,{v:=.func f fi ca})
end
section
variable{P:c8}{ag:db->Bool}
def rR(c a b:AV):eE:=
 match c with
 | .p (.bool t)=>some (True,{v:=if t then a else b})
 |_=>none
def rE(P:c8)(T:c7)(n:Nat):eE:=
 match cK P T with
 |some z=>some (kindOf P T=aL z/\aL z≠.bad/\jS T (aL z)=true,{v:=.ptr n [],aS:=[.box false (.p z)]})
 |none=>none
def uu(P:c8)(T:c7)(n:Nat)(x:AV):eE:=some (kindOf P T=ad x/\ad x≠.bad/\jS T (ad x)=true,{v:=.ptr n [],aS:=[.box false x]})
def rC(P:c8)(T:c7)(a:List (Nat×AV)):eE:=
 match kindOf P T,cK P T with
 | .agg u,some z=>match dL P u with
  |some l=>some (aL z=.agg u/\mg P l a,{v:=iC u (iV ((cH z).map .p) a)})
  |none=>none
 |_,_=>none
def qH(P:c8)(T:c7)(n:Nat)(a:List (Nat×AV))(b:Nat):eE:=
 match cV P T,cK P (dW P T)with
 |some sz,some z=>some (bG P (aL z)=sz/\n*sz<=1000000/\mg P (hT n sz) a,{v:=.sl b 0 sz 0 n,aS:=[.arr .exact 0 sz (iV (hT n (.p z)) a)]})
 |_,_=>none
def uG(op:dl)(k:ea)(a b:Int):Prop×PV:=
 match op with
 | .add=>(True,.int k (k.wrap (a+b)))
 | .sub=>(True,.int k (k.wrap (a-b)))
 | .mul=>(True,.int k (k.wrap (a*b)))
 | .quo=>(b≠0,.int k (k.wrap (a.tdiv b)))
 | .rem=>(b≠0,.int k (a.tmod b))
 | .and=>(True,.int k (k.wrap (cx k.bits a&&&cx k.bits b).toNat))
 | .or=>(True,.int k (k.wrap (cx k.bits a|||cx k.bits b).toNat))
 | .xor=>(True,.int k (k.wrap (cx k.bits a^^^cx k.bits b).toNat))
 | .andNot=>(True,.int k (k.wrap (cx k.bits a&&&~~~cx k.bits b).toNat))
 | .eql=>(True,.bool (a==b))
 | .neq=>(True,.bool (a !=b))
 | .lss=>(True,.bool (decide (a<b)))
 | .leq=>(True,.bool (decide (a<=b)))
 | .gtr=>(True,.bool (decide (a>b)))
 | .geq=>(True,.bool (decide (a>=b)))
 | .shl=>(0<=b,.int k (k.wrap (a*2^(min b.toNat k.bits))))
 | .shr=>(0<=b,.int k (a.fdiv (2^(min b.toNat k.bits))))
theorem azC{op:dl}{k:ea}{a b:Int}{K:PV->Prop}(h:(uG op k a b).1)(hk:K (uG op k a b).2):pW op k a b K:=by
 cases op<;>simp only[uG,pW]at*<;>first|exact hk|exact⟨h,hk⟩
def FV(op:dl)(a b:List Nat):Option (Prop×PV):=
 match op with
 | .add=>some (a.length+b.length<9223372036854775808,.str (a++b))
 | .eql=>some (True,.bool (a==b))
 | .neq=>some (True,.bool (!(a==b)))
 | .lss=>some (True,.bool (jM a b))
 | .leq=>some (True,.bool (jM a b||a==b))
 | .gtr=>some (True,.bool (!(jM a b||a==b)))
 | .geq=>some (True,.bool (!(jM a b)))
 |_=>none
def jR(P:c8)(op:dl)(T:c7)(c:Bool)(H:Heap)(x y:AV):eE:=
 match x,y with
 | .p (.int k a),.p (.int d b)=>some ((k=d\/op=.shl\/op=.shr)/\(uG op k a b).1,{v:=.p (uG op k a b).2})
 | .p (.str a),.p (.str b)=>match FV op a b with
  |some (p,v)=>some (p,{v:=.p v})
  |none=>none
 | .p (.bool a),.p (.bool b)=>match op with
  | .eql=>some (rq P T=true,{v:=.p (.bool (a==b))})
  | .neq=>some (rq P T=true,{v:=.p (.bool (!(a==b)))})
  |_=>none
 | .p (.st u fs),.p (.st u' gs)=>match fy P 9 T (.st u fs) (.st u' gs),op with
  |some r,.eql=>some (nG P T=true,{v:=.p (.bool r)})
  |some r,.neq=>some (nG P T=true,{v:=.p (.bool !r)})
  |_,_=>none
 |x,y=>match dF P T c y with
  |some k=>match cZ H k x,op with
   |some r,.eql=>some (True,{v:=.p (.bool r),ak:=dH H x})
   |some r,.neq=>some (True,{v:=.p (.bool !r),ak:=dH H x})
   |_,_=>none
  |none=>none
theorem LH{op:dl}{T:c7}{c:Bool}{H:Heap}{x y:AV}{k:uU}{K:PV->Prop}(hk:dF P T c y=some k):kY P op T c H x y K=(match cZ H k x,op with
  |some r,.eql=>K (.bool r)
  |some r,.neq=>K (.bool !r)
  |_,_=>False):=by
 have a:=hk;rcases KM hk with⟨rfl,rfl,_⟩|⟨rfl,rfl,_⟩|⟨rfl,rfl,_⟩|⟨rfl,rfl,_⟩|⟨rfl,rfl,_⟩
 all_goals
  unfold kY;cases x with
  |p v=>
   cases v<;>simp only[a]<;>(generalize cZ H _ _=r;cases r<;>cases op<;>rfl)
  |_=>simp only[a];(generalize cZ H _ _=r;cases r<;>cases op<;>rfl)
theorem aob{op:dl}{T:c7}{c:Bool}{H:Heap}{x y:AV}:Can (fun K=>kY P op T c H x y (fun v=>K {v:=.p v,ak:=dH H x})) (jR P op T c H x y):=by
 intro K h;unfold jR at h;unfold kY
 split at h
 ·exact⟨h.1.1,azC h.1.2 h.2⟩
 ·split at h
  ·rename_i p v a;simp only[bf]at h;show pV op _ _ _;unfold FV at a
   split at a<;>first
    |(simp only[lw,l1]at a
      obtain⟨b,d⟩:=a;rw[<-b,<-d]at h;simp only[pV]
      first|exact h.2|exact⟨h.1,h.2⟩)
    |cases a
  ·exact h.elim
 ·split at h
  ·exact⟨h.1,h.2⟩
  ·exact⟨h.1,h.2⟩
  ·exact h.elim
 ·split at h
  ·rename_i e;simp only[bf]at h;simp only[e];exact⟨h.1,h.2⟩
  ·rename_i e;simp only[bf]at h;simp only[e];exact⟨h.1,h.2⟩
  ·exact h.elim
 ·rename_i b d f g
  split at h
  case h_2=>exact h.elim
  rename_i k hk;clear b d f g;show kY P op T c H x y _;rw[LH hk];generalize cZ H k x=q at h⊢;cases q<;>cases op<;>first|exact h.elim|exact h.2
def sK(op:UnOp)(x:AV):eE:=
 match op,x with
 | .not,.p (.bool b)=>some (True,{v:=.p (.bool (!b))})
 | .neg,.p (.int k n)=>some (True,{v:=.p (.int k (k.wrap (0-n)))})
 | .xor,.p (.int k n)=>some (True,{v:=.p (.int k (k.wrap (cx k.bits (if k.signed then -1 else k.max)^^^cx k.bits n).toNat))})
 |_,_=>none
def rK(P:c8)(S D:c7)(H:Heap)(x:AV):eE:=
 match P.underlying S,P.underlying D,x with
 |some _,some (.int k),.p (.int _ n)=>some (True,{v:=.p (.int k (k.wrap n))})
 |some _,some .string,.p (.str s)=>some (True,{v:=.p (.str s)})
 |some (.slice e),some .string,.sl b aq ai off len=>match H[b]? with
  |some (.arr k c a es)=>match bytesOf ((es.drop off).take len)with
   |some l=>some ((aq=c/\ai=a/\ai=1/\P.underlying e=some (.int .u8)/\0<len/\off+len<=es.length),{v:=.p (.str l),ak:=[(b,.arr k c a es)]})
   |none=>none
  |_=>none
 |_,_,_=>none
def qS(t:AV)(i:Nat):eE:=
 match t with
 | .p (.aE vs)=>match vs[i]? with
  |some v=>some (True,{v:=.p v})
  |none=>none
 | .aE vs=>match vs[i]? with
  |some v=>some (True,{v})
  |none=>none
 |_=>none
def rG(P:c8)(T:c7)(x i:AV):eE:=
 match x,i with
 | .p (.str s),.p (.int _ i)=>match s[i.toNat]? with
  |some c=>some (iW P T=true/\0<=i,{v:=.p (.int .u8 c)})
  |none=>none
 | .p (.st u es),.p (.int _ i)=>match iA P T,(jX P u)[i.toNat]?,es[i.toNat]? with
  |some (u',n),some F,some g=>some (u'=u/\0<=i/\i.toNat<n/\kindOf P F=aL g,{v:=.p g})
  |_,_,_=>none
 |_,_=>none
def su(P:c8)(T:c7)(n:Nat)(H:Heap)(x:AV):eE:=
 match lenOf H x with
 |some (m,ak)=>some (ir P T x=true/\0<n,{v:=.p (.int .i64 m),ak})
 |none=>none
def lB(P:c8)(ag:db->Bool)(o:Oper)(e:Env)(H:Heap)(K:aU->Prop):Prop:=
 match o.op with
 | .move x| .assign x=>K {v:=ev e x}
 | .pick c a b=>bf (rR (ev e c) (ev e a) (ev e b)) K
 | .alloc T=>bf (rE P T H.length) K
 | .box T x=>bf (uu P T H.length (ev e x)) K
 | .build T parts=>bf (rC P T (parts.toList.map fun(i,x)=>(i,ev e x))) K
 | .buildSlice T n parts=>bf (qH P T n (parts.toList.map fun(i,x)=>(i,ev e x)) H.length) K
 | .load T a=>bf (pX P T H (ev e a)) K
 | .store T a x=>bf (pN P T H (ev e a) (ev e x)) K
 | .binOp op T x y _=>bf (jR P op T (mI y) H (ev e x) (ev e y)) K
 | .unOp op _ x=>bf (sK op (ev e x)) K
 | .convert S D x=>bf (rK P S D H (ev e x)) K
 | .extract t i=>bf (qS (ev e t) i) K
 | .fieldAddr T a f=>bf (po P T (ev e a) f) K
 | .indexAddr T x i=>bf (pn P T H (ev e x) (ev e i)) K
 | .index T x i=>bf (rG P T (ev e x) (ev e i)) K
 | .slice T x lo hi none=>bf (pP P T H (ev e x) (lo.map (ev e)) (hi.map (ev e))) K
 | .lookup T x i ok=>bf (rO P T H (ev e x) (ev e i) ok) K
 | .mapUpdate T m k x| .insert T m k x=>bf (mH P T H (ev e m) (ev e k) (ev e x)) K
 | .range T x=>bf (ry P T H.length (ev e x)) K
 | .next it true=>bf (rW H (ev e it)) K
 | .makeSlice T l c=>bf (rY P T H.length (ev e l) (ev e c)) K
 | .nilCheck x=>bf (rj (ev e x)) K
 | .call c=>match c.callee with
  | .builtin .len=>(match c.args.toList with
   |[x]=>bf (su P (c.argTypes.getD 0 0) c.argTypes.size H (ev e x)) K
   |_=>False)
  | .builtin .append=>(match c.args.toList with
   |[s,x]=>c.argTypes.size=2/\bf (pM P (c.argTypes.getD 0 0) (c.argTypes.getD 1 0) H (ev e s) (ev e x)) K
   |_=>False)
  | .builtin .copy=>(match c.args.toList with
   |[d,x]=>c.argTypes.size=2/\bf (copyV P (c.argTypes.getD 0 0) H (ev e d) (ev e x)) K
   |_=>False)
  | .builtin .min=>bf (ly false (c.args.toList.map (ev e))) K
  | .builtin .max=>bf (ly true (c.args.toList.map (ev e))) K
  |_=>fC P ag o (ev e) H K
 |_=>fC P ag o (ev e) H K
theorem H6{a:c7}{b:Nat}{key:PV}{x:AV}{c:Obj}{K:aU->Prop}(h:bf (xm P a b key x c) K):fj P a key=true/\mU P a b key x c K:=by
 unfold xm at h;unfold mU
 split at h
 case h_2=>exact h.elim
 rename_i d
 split at h
 case h_2=>exact h.elim
 rename_i hl;simp only[d];exact⟨h.1.1,h.1.2,hl,h.2⟩
theorem PI{o:Oper}{e:Env}{H:Heap}{K:aU->Prop}(h:lB P ag o e H K):fC P ag o (ev e) H K:=by
 unfold lB at h;unfold fC;cases w:o.op<;>simp only[w]at h<;>simp only
 case move|assign=>exact h
 case pick c a b=>
  unfold rR at h
  split at h
  ·rename_i hc;simp only[hc];exact h.2
  ·exact h.elim
 case alloc T=>
  unfold rE at h
  split at h
  ·rename_i v;simp only[bf]at h;simp only[v];exact⟨h.1.1,h.1.2.1,h.1.2.2,h.2⟩
  ·exact h.elim
 case box T x=>exact⟨h.1.1,h.1.2.1,h.1.2.2,h.2⟩
 case build T parts=>
  unfold rC at h
  split at h
  ·rename_i hk v
   split at h
   ·rename_i hl;simp only[bf]at h;simp only[hk,v,hl];exact⟨h.1.1,h.1.2,h.2⟩
   ·exact h.elim
  ·exact h.elim
 case buildSlice T n parts=>
  unfold qH at h
  split at h
  ·rename_i hk v;simp only[bf]at h;simp only[hk,v];exact⟨h.1.1,h.1.2.1,h.1.2.2,h.2⟩
  ·exact h.elim
 case load T a=>exact ZZ K h
 case store T a x=>exact YM K h
 case binOp op T x y N=>exact aob K h
 case unOp op T x=>
  unfold sK at h
  split at h
  ·rename_i hx;simp only[hx];exact h.2
  ·rename_i hx;simp only[hx];exact h.2
  ·rename_i hx;simp only[hx];exact h.2
  ·exact h.elim
 case convert S D x=>
  unfold rK at h
  split at h
  ·rename_i g j p;simp only[g,j,p];exact h.2
  ·rename_i g j p;simp only[g,j,p];exact h.2
  ·rename_i g j p
   split at h
   ·rename_i q
    split at h
    ·rename_i hl;obtain⟨⟨B,a2,a3,a4,a5,C⟩,h⟩:=h;simp only[g,j,p,q,hl];exact⟨B,a2,a3,a4,a5,C,h⟩
    ·exact h.elim
   ·exact h.elim
  ·exact h.elim
 case extract t i=>
  unfold qS at h
  split at h
  ·rename_i E
   split at h
   ·rename_i F;simp only[E,F];exact h.2
   ·exact h.elim
  ·rename_i E
   split at h
   ·rename_i F;simp only[E,F];exact h.2
   ·exact h.elim
  ·exact h.elim
 case fieldAddr T a f=>exact Vi K h
 case indexAddr T x i=>exact Vh K h
 case index T x i=>
  unfold rG at h
  split at h
  ·rename_i hx hi
   split at h
   ·rename_i c hc;obtain⟨J,rfl⟩:=hQ.1 hc;simp only[hx,hi];exact⟨h.1.1,h.1.2,J,h.2⟩
   ·exact h.elim
  ·rename_i hx hi
   split at h
   ·rename_i g j p;obtain⟨⟨g1,g2,g3,g4⟩,h⟩:=h;simp only[hx,hi,g,j,p];exact⟨g1,g2,g3,g4,h⟩
   ·exact h.elim
  ·exact h.elim
 case slice T x lo hi M=>
  cases M with
  |none=>exact YN K h
  |some m=>simp only[fC,w]at h;exact h
 case lookup T x i ok=>
  unfold rO at h
  split at h
  case h_2=>exact h.elim
  rename_i L hi;simp only[L,hi]
  split at h
  case h_2=>exact h.elim
  rename_i z v;simp only[v]
  split at h
  ·rename_i hx;simp only[hx];exact h
  ·rename_i O hx;simp only[hx]
   split at h
   case h_2=>exact h.elim
   rename_i r u;refine⟨h.1,?_⟩;simp only[u];cases r<;>exact h.2
  ·rename_i b hx;simp only[hx]
   split at h
   ·rename_i q
    split at h
    case h_2=>exact h.elim
    rename_i r u;refine⟨h.1,?_⟩;simp only[q,u];cases r<;>exact h.2
   ·rename_i q
    split at h
    case h_2=>exact h.elim
    rename_i r u;refine⟨h.1.1,?_⟩;simp only[q,u];refine⟨h.1.2,?_⟩;cases r<;>exact h.2
   ·exact h.elim
  ·exact h.elim
 case mapUpdate T m k x|insert T m k x=>
  unfold mH at h
  split at h
  ·rename_i g j p A;simp only[g,j,p,A]
   split at h
   ·rename_i q
    split at h
    case h_2=>exact h.elim
    rename_i u;refine⟨h.1,?_⟩;simp only[q,u];exact h.2
   ·rename_i q;have h:=H6 h;refine⟨h.1,?_⟩;simp only[q];exact h.2
   ·exact h.elim
  ·rename_i R Q g j p A;simp only[g,j,p,A]
   split at h
   case h_2=>exact h.elim
   rename_i q;have h:=H6 h;refine⟨h.1,?_⟩;simp only[q];exact h.2
  ·exact h.elim
 case range T x=>
  unfold ry at h
  split at h
  ·rename_i hx;simp only[hx];exact h
  ·exact h.elim
 case next it s=>
  cases s with
  |false=>simp only[fC,w]at h
  |true=>
   dsimp only at h⊢;unfold rW at h
   split at h
   case h_2=>exact h.elim
   rename_i hx;simp only[hx]
   split at h
   case h_2=>exact h.elim
   rename_i q;simp only[q];have h:=h.2
   split
   ·rename_i hc;rw[if_pos hc]at h;exact h
   ·rename_i hc;rw[if_neg hc]at h;exact h
 case makeSlice T l c=>
  unfold rY at h
  split at h
  ·rename_i g j p A;simp only[g,j,p,A];exact⟨h.1.1,h.1.2.1,h.1.2.2.1,h.1.2.2.2,h.2⟩
  ·exact h.elim
 case nilCheck x=>
  unfold rj at h
  split at h
  ·rename_i hx;simp only[hx];rw[hx]at h;exact h.2
  ·rename_i hx;simp only[hx];rw[hx]at h;exact h.2
  ·rename_i hx;simp only[hx];rw[hx]at h;exact h.2
  ·exact h.elim
 case call c=>
  split at h
  ·rename_i hc
   split at h
   ·rename_i x hx;unfold su at h
    split at h
    ·rename_i hl;simp only[bf]at h;simp only[hc,hx,hU,h7,hl];exact⟨h.1.1,h.1.2,h.2⟩
    ·exact h.elim
   ·exact h.elim
  ·rename_i hc
   split at h
   ·rename_i s x hx;simp only[hc,hx,hU,h7];exact⟨h.1,WG K h.2⟩
   ·exact h.elim
  ·rename_i hc
   split at h
   ·rename_i d x hx;simp only[hc,hx,hU,h7];obtain⟨I,h⟩:=h;unfold copyV at h
    split at h
    case h_2=>exact h.elim
    rename_i g j p
    split at h
    case h_2=>exact h.elim
    rename_i q;simp only[bf]at h;obtain⟨⟨⟨B,a2⟩,a3,a4,a5,C,G⟩,hk⟩:=h;simp only[g,j,p,q];exact⟨B,a2,I,a3,a4,a5,C,G,hk⟩
   ·exact h.elim
  ·rename_i hc;unfold ly at h
   split at h
   case h_2=>exact h.elim
   rename_i hx
   split at h
   case h_2=>exact h.elim
   rename_i u;simp only[hc,hx,u];exact h.2
  ·rename_i hc;unfold ly at h
   split at h
   case h_2=>exact h.elim
   rename_i hx
   split at h
   case h_2=>exact h.elim
   rename_i u;simp only[hc,hx,u];exact h.2
  ·unfold fC at h;simp only[w]at h;exact h
 all_goals first
  |exact h
  |(unfold fC at h
    simp only[w]at h;exact h)
  |(unfold fC at h
    simp only[w]at h)
end
section
variable{P:c8}{ag:db->Bool}
def eC(dst:Option Tmp)(s:St)(K:St->Prop)(e:aU):Prop:=K (e.app dst s)
def AX(dst:Option Tmp)(s:St)(K:St->Prop)(v:AV)(H:Heap):Prop:=K ⟨put dst v s.env,H⟩
def rL(P:c8)(f:AV)(args:List AV)(H:Heap)(K:AV->Heap->Prop):Prop:=
 match f with
 | .p (.func g fi ca)=>ij P false g (fi.map .p++args++ca.map .p) H K
 | .func g fi ca=>ij P false g (fi++args++ca) H K
 | .map b=>∃H' v,iY P b H args H' v/\K v H'
 |_=>False
def rB(P:c8)(f:AV)(args:List AV)(H:Heap)(K:aU->Prop):Prop:=
 match f with
 | .p (.func g fi ca)=>iw P g (fi.map .p++args++ca.map .p) H K
 | .func g fi ca=>iw P g (fi++args++ca) H K
 | .map b=>∃e,ua P b args H.length e/\pZ H e/\K e
 |_=>False
def dA(P:c8)(ag:db->Bool)(o:Oper)(K:St->Prop)(s:St):Prop:=
 match o.op with
 | .call {callee:=.value f,args,.. }=>rL P (ev s.env f) (args.toList.map (ev s.env)) s.heap (AX o.dst s K)
 |_=>lB P ag o s.env s.heap (eC o.dst s K)
def dB(P:c8)(ag:db->Bool)(o:Oper)(s:St)(K:aU->Prop):Prop:=
 match o.op with
 | .call {callee:=.value f,args,.. }=>rB P (ev s.env f) (args.toList.map (ev s.env)) s.heap K
 |_=>lB P ag o s.env s.heap K
theorem X2{o:Oper}{K:St->Prop}{s:St}(h:dA P ag o K s):kj P ag false o K s:=by
 unfold dA at h;unfold kj
 split at h
 ·rename_i f args b a;simp only[a];unfold rL at h
  split at h
  ·rename_i hf;simp only[hf];exact h
  ·rename_i hf;simp only[hf];exact h
  ·rename_i hf;simp only[hf];exact h
  ·exact h.elim
 ·rename_i c
  split
  ·rename_i f args b a;exact(c _ _ _ a).elim
  ·exact PI h
theorem X9{o:Oper}{K:aU->Prop}{s:St}(h:dB P ag o s K):jT P ag o s K:=by
 unfold dB at h;unfold jT
 split at h
 ·rename_i f args b a;simp only[a];unfold rB at h
  split at h
  ·rename_i hf;simp only[hf];exact h
  ·rename_i hf;simp only[hf];exact h
  ·rename_i hf;simp only[hf];exact h
  ·exact h.elim
 ·rename_i c
  split
  ·rename_i f args b a;exact(c _ _ _ a).elim
  ·exact PI h
def gz(P:c8)(ag:db->Bool)(a:Array Oper):List Oper->(St->Prop)->St->Prop
 |[],K,s=>K s
 |o::r,K,s=>match o.guard with
  |none=>dA P ag o (gz P ag a r K) s
  |some (j,want)=>match guardOf a j s.env with
   | .p (.bool t)=>if t=want then dA P ag o (gz P ag a r K) s else gz P ag a r K ⟨put o.dst (.p (.aE [])) s.env,s.heap⟩
   | .p (.aE [])=>gz P ag a r K ⟨put o.dst (.p (.aE [])) s.env,s.heap⟩
   |_=>False
def gJ(P:c8)(ag:db->Bool)(a:Array Oper):List Oper->Nat->List Touch->(St->Prop)->St->Prop
 |[],_,acc,K,s=>kP a acc=true/\K s
 |o::r,i,acc,K,s=>match o.guard with
  |none=>dB P ag o s fun e=>gJ P ag a r (i+1) (im i s.heap.length e acc) K (e.app o.dst s)
  |some (j,want)=>match guardOf a j s.env with
   | .p (.bool t)=>if t=want then dB P ag o s fun e=>gJ P ag a r (i+1) (im i s.heap.length e acc) K (e.app o.dst s)
    else gJ P ag a r (i+1) acc K ⟨put o.dst (.p (.aE [])) s.env,s.heap⟩
   | .p (.aE [])=>gJ P ag a r (i+1) acc K ⟨put o.dst (.p (.aE [])) s.env,s.heap⟩
   |_=>False
theorem zw{b:Array Oper}:∀(l:List Oper){K a:St->Prop}{s:St},(∀s,K s->a s)->gz P ag b l K s->iq P ag false b l a s
 |[],K,a,s,hk,h=>by simp only[gz]at h;simp only[iq];exact hk s h
 |o::l,K,a,s,hk,h=>by
  have go:dA P ag o (gz P ag b l K) s->kj P ag false o (iq P ag false b l a) s:=fun h=>by
   obtain⟨t,f,g⟩:=Lo false o s _ (X2 h);exact g _ (zw l hk f)
  simp only[gz]at h;simp only[iq]
  split at h
  ·rename_i c;simp only[c];exact go h
  ·rename_i j i c;simp only[c]
   split at h
   ·rename_i t d;simp only[d]
    split at h
    ·rename_i e;rw[if_pos e];exact go h
    ·rename_i e;rw[if_neg e];exact zw l hk h
   ·rename_i d;simp only[d];exact zw l hk h
   ·exact h.elim
theorem yV{c:Array Oper}:∀(l:List Oper){i:Nat}{a:List Touch}{K b:St->Prop}{s:St},(∀s,K s->b s)->gJ P ag c l i a K s->gI P ag c l i a b s
 |[],i,a,K,b,s,hk,h=>by simp only[gJ]at h;simp only[gI];exact⟨h.1,hk s h.2⟩
 |o::l,i,a,K,b,s,hk,h=>by
  have go:dB P ag o s (fun e=>gJ P ag c l (i+1) (im i s.heap.length e a) K (e.app o.dst s))->jT P ag o s (fun e=>gI P ag c l (i+1) (im i s.heap.length e a) b (e.app o.dst s)):=fun h=>by
   obtain⟨e,k,m⟩:=Lp o s _ (X9 h);exact m _ (yV l hk k)
  simp only[gJ]at h;simp only[gI]
  split at h
  ·rename_i d;simp only[d];exact go h
  ·rename_i j n d;simp only[d]
   split at h
   ·rename_i t f;simp only[f]
    split at h
    ·rename_i g;rw[if_pos g];exact go h
    ·rename_i g;rw[if_neg g];exact yV l hk h
   ·rename_i f;simp only[f];exact yV l hk h
   ·exact h.elim
def uf(v:AV)(a b:St->Prop)(s:St):Prop:=
 match v with
 | .p (.bool t)=>if t then a s else b s
 |_=>False
def uL(K:St->Prop)(Q:bw->St->Prop)(e:bw)(s:St):Prop:=
 match e with
 | .normal=>K s
 |e=>Q e s
def dw(P:c8)(ag:db->Bool)(q:Cx):Code->(bw->St->Prop)->St->Prop
 | .skip,Q,s| .label _,Q,s=>Q .normal s
 | .region _ ops draw,Q,s=>if draw then gJ P ag ops ops.toList 0 [] (Q .normal) s else gz P ag ops ops.toList (Q .normal) s
 | .seq a b,Q,s=>dw P ag q a (uL (dw P ag q b Q) Q) s
 | .cond c a b,Q,s=>uf (ev s.env c) (dw P ag q a Q) (dw P ag q b Q) s
 | .block id b,Q,s=>dw P ag q b (oI id Q) s
 | .scope b,Q,s=>dw P ag q b Q s
 | .loop b,Q,s=>∃I:Nat->St->Prop,(∃n t,bE q.2 s t/\I n t)/\∀n t,I n t->dw P ag q b (uc q.2 n I Q) t
 | .rangeFunc f d a b,Q,s=>q.2<=s.heap.length/\kz P (ev s.env f) s.heap.length (s.heap++[.loop ⟨.ready,none,q.1,d.toList,a,b,s.env⟩]) (jy s.heap.length s.env Q)
 | .exit id,Q,s=>Q (.exit id) s
 | .ret,Q,s=>Q .ret s
 |_,_,_=>False
theorem Yh{Q a:bw->St->Prop}(hq:∀e s,Q e s->a e s){j:Option Code}{s:St}(h:kX Q j s):kX a j s:=by
 unfold kX at h⊢
 split at h
 ·exact hq _ _ h
 ·exact hq _ _ h
 ·exact hq _ _ h
 ·exact h.elim
theorem K7{Q a:bw->St->Prop}(hq:∀e s,Q e s->a e s){b:Nat}{env:Env}{H:Heap}(h:jy b env Q H):jy b env a H:=by
 unfold jy at h⊢
 split at h
 ·exact⟨h.1,Yh hq h.2⟩
 ·exact h.elim
theorem K3{it:AV}{b:Nat}{H:Heap}{K d:Heap->Prop}(hk:∀H,K H->d H)(h:kz P it b H K):kz P it b H d:=by
 unfold kz at h⊢
 split at h
 ·obtain⟨H',v,a,c⟩:=h;exact⟨H',v,a,hk _ c⟩
 ·obtain⟨H',v,a,c⟩:=h;exact⟨H',v,a,hk _ c⟩
 ·exact h.elim
theorem l9{q:Cx}:∀(c:Code){Q Q':bw->St->Prop}{s:St},(∀e s,Q e s->Q' e s)->dw P ag q c Q s->cg P ag q c Q' s
 | .skip,Q,Q',s,hq,h| .label _,Q,Q',s,hq,h=>by simp only[dw]at h;simp only[cg];exact hq _ _ h
 | .exit _,Q,Q',s,hq,h| .ret,Q,Q',s,hq,h=>by simp only[dw]at h;simp only[cg];exact hq _ _ h
 | .region id ops draw,Q,Q',s,hq,h=>by
  simp only[dw]at h;simp only[cg]
  split at h
  ·rename_i j;rw[if_pos j];exact yV _ (hq _) h
  ·rename_i j;rw[if_neg j];exact zw _ (hq _) h
 | .seq a b,Q,Q',s,hq,h=>by
  simp only[dw]at h;simp only[cg];refine l9 a (fun e s d=>?_) h;cases e with
  |normal=>exact l9 b hq d
  |exit id=>exact hq _ _ d
  |ret=>exact hq _ _ d
 | .cond c a b,Q,Q',s,hq,h=>by
  simp only[dw]at h;simp only[cg];unfold uf at h
  split at h
  ·rename_i t m;simp only[m]
   split at h
   ·rename_i g;rw[if_pos g];exact l9 a hq h
   ·rename_i g;rw[if_neg g];exact l9 b hq h
  ·exact h.elim
 | .block id b,Q,Q',s,hq,h=>by
  simp only[dw]at h;simp only[cg];refine l9 b (fun e s d=>?_) h;cases e with
  |normal=>exact hq _ _ d
  |exit i=>
   simp only[oI]at d
   by_cases hi:i=id
   ·simp only[hi,if_true]at d⊢;exact hq _ _ d
   ·simp only[hi,if_false]at d⊢;exact hq _ _ d
  |ret=>exact hq _ _ d
 | .scope b,Q,Q',s,hq,h=>by simp only[dw]at h;simp only[cg];exact l9 b hq h
 | .loop b,Q,Q',s,hq,h=>by
  simp only[dw]at h;simp only[cg];obtain⟨I,k,l⟩:=h;refine⟨I,k,fun n t hI=>l9 b (fun e s d=>?_) (l n t hI)⟩;cases e with
  |normal=>exact d
  |exit id=>exact hq _ _ d
  |ret=>exact hq _ _ d
 | .rangeFunc f o a b,Q,Q',s,hq,h=>by
  simp only[dw]at h;simp only[cg];exact⟨h.1,s.env,fun _=>rfl,K3 (fun H=>K7 hq) h.2⟩
 | .goto _,_,_,_,_,h| .refuse _,_,_,_,_,h=>by simp[dw]at h
end
section
variable{P:c8}{ag:db->Bool}{q:Cx}
theorem Pa{Q:bw->St->Prop}{s:St}:dw P ag q .skip Q s=Q .normal s:=(rfl)
theorem NR{l:Nat}{Q:bw->St->Prop}{s:St}:dw P ag q (.label l) Q s=Q .normal s:=(rfl)
theorem Pb{id:Nat}{Q:bw->St->Prop}{s:St}:dw P ag q (.exit id) Q s=Q (.exit id) s:=(rfl)
theorem S5{Q:bw->St->Prop}{s:St}:dw P ag q .ret Q s=Q .ret s:=(rfl)
theorem NP{b:Code}{Q:bw->St->Prop}{s:St}:dw P ag q (.scope b) Q s=dw P ag q b Q s:=(rfl)
theorem Pc{id:Nat}{l:List Oper}{Q:bw->St->Prop}{s:St}:dw P ag q (.region id l.toArray true) Q s=gJ P ag l.toArray l 0 [] (Q .normal) s:=by simp[dw]
theorem NQ{id:Nat}{l:List Oper}{Q:bw->St->Prop}{s:St}:dw P ag q (.region id l.toArray false) Q s=gz P ag l.toArray l (Q .normal) s:=by simp[dw]
theorem S6{a b:Code}{Q:bw->St->Prop}{s:St}:dw P ag q (.seq a b) Q s=dw P ag q a (uL (dw P ag q b Q) Q) s:=(rfl)
theorem NT{id:Nat}{b:Code}{Q:bw->St->Prop}{s:St}:dw P ag q (.block id b) Q s=dw P ag q b (oI id Q) s:=(rfl)
theorem Pd{c:c6}{a b:Code}{Q:bw->St->Prop}{s:St}:dw P ag q (.cond c a b) Q s=uf (ev s.env c) (dw P ag q a Q) (dw P ag q b Q) s:=(rfl)
theorem J4{K:St->Prop}{Q:bw->St->Prop}{s:St}:uL K Q .normal s=K s:=(rfl)
theorem Lr{id:Nat}{K:St->Prop}{Q:bw->St->Prop}{s:St}:uL K Q (.exit id) s=Q (.exit id) s:=(rfl)
theorem Mn{K:St->Prop}{Q:bw->St->Prop}{s:St}:uL K Q .ret s=Q .ret s:=(rfl)
theorem Kq{t:Bool}{a b:St->Prop}{s:St}:uf (.p (.bool t)) a b s=if t then a s else b s:=(rfl)
def w8(P:c8)(ag:db->Bool)(b:Array Oper)(r:List Oper)(i:Nat)(a:List Touch)(K:St->Prop)(dst:Option Tmp)(s:St)(e:aU):Prop:=
 gJ P ag b r (i+1) (im i s.heap.length e a) K (e.app dst s)
theorem MP{b:Array Oper}{r:List Oper}{i:Nat}{a:List Touch}{K:St->Prop}{dst:Option Tmp}{env:Env}{heap:Heap}{v:AV}{ak aG:List (Nat×Obj)}{aS:List Obj}:
 w8 P ag b r i a K dst ⟨env,heap⟩ ⟨v,ak,aG,aS⟩=gJ P ag b r (i+1) (im i heap.length ⟨v,ak,aG,aS⟩ a) K ⟨put dst v env,aW heap aG++aS⟩:=(rfl)
theorem OL{dst:Option Tmp}{env:Env}{heap:Heap}{K:St->Prop}{v:AV}{ak aG:List (Nat×Obj)}{aS:List Obj}:eC dst ⟨env,heap⟩ K ⟨v,ak,aG,aS⟩=K ⟨put dst v env,aW heap aG++aS⟩:=(rfl)
theorem Og{dst:Option Tmp}{env:Env}{heap H:Heap}{K:St->Prop}{v:AV}:AX dst ⟨env,heap⟩ K v H=K ⟨put dst v env,H⟩:=(rfl)
def zA(P:c8)(ag:db->Bool)(b:Array Oper)(o:Oper)(r:List Oper)(i:Nat)(a:List Touch)(K:St->Prop)(c:Bool)(s:St)(g:AV):Prop:=
 match g with
 | .p (.bool t)=>if t=c then dB P ag o s (w8 P ag b r i a K o.dst s)else gJ P ag b r (i+1) a K ⟨put o.dst (.p (.aE [])) s.env,s.heap⟩
 | .p (.aE [])=>gJ P ag b r (i+1) a K ⟨put o.dst (.p (.aE [])) s.env,s.heap⟩
 |_=>False
def zS(P:c8)(ag:db->Bool)(a:Array Oper)(o:Oper)(r:List Oper)(K:St->Prop)(b:Bool)(s:St)(g:AV):Prop:=
 match g with
 | .p (.bool t)=>if t=b then dA P ag o (gz P ag a r K) s else gz P ag a r K ⟨put o.dst (.p (.aE [])) s.env,s.heap⟩
 | .p (.aE [])=>gz P ag a r K ⟨put o.dst (.p (.aE [])) s.env,s.heap⟩
 |_=>False
theorem O9{b:Array Oper}{i:Nat}{a:List Touch}{K:St->Prop}{s:St}:gJ P ag b [] i a K s=(kP b a=true/\K s):=(rfl)
theorem NO{b:Array Oper}{i c:Nat}{pos:String}{a:List Touch}{K:St->Prop}{s:St}{dst:Option Tmp}{op:Op}{af:Array Edge}{r:List Oper}:
 gJ P ag b ({dst,op,type:=c,pos,after:=af,guard:=none}::r) i a K s=dB P ag {dst,op,type:=c,pos,after:=af,guard:=none} s (w8 P ag b r i a K dst s):=(rfl)
theorem Mt{a:Array Oper}{i d j:Nat}{b:Bool}{pos:String}{c:List Touch}{K:St->Prop}{s:St}{dst:Option Tmp}{op:Op}{af:Array Edge}{r:List Oper}:
 gJ P ag a ({dst,op,type:=d,pos,after:=af,guard:=some (j,b)}::r) i c K s=zA P ag a {dst,op,type:=d,pos,after:=af,guard:=some (j,b)} r i c K b s (guardOf a j s.env):=(rfl)
theorem O7{a:Array Oper}{K:St->Prop}{s:St}:gz P ag a [] K s=K s:=(rfl)
theorem NK{a:Array Oper}{b:Nat}{pos:String}{K:St->Prop}{s:St}{dst:Option Tmp}{op:Op}{af:Array Edge}{r:List Oper}:
 gz P ag a ({dst,op,type:=b,pos,after:=af,guard:=none}::r) K s=dA P ag {dst,op,type:=b,pos,after:=af,guard:=none} (gz P ag a r K) s:=(rfl)
theorem Ms{a:Array Oper}{c j:Nat}{b:Bool}{pos:String}{K:St->Prop}{s:St}{dst:Option Tmp}{op:Op}{af:Array Edge}{r:List Oper}:
 gz P ag a ({dst,op,type:=c,pos,after:=af,guard:=some (j,b)}::r) K s=zS P ag a {dst,op,type:=c,pos,after:=af,guard:=some (j,b)} r K b s (guardOf a j s.env):=(rfl)
end
section EL
variable{P:c8}{ag:db->Bool}{q:Cx}
end EL
section ops
variable{P:c8}{ag:db->Bool}{dst:Option Tmp}{ty:Nat}{pos:String}{af:Array Edge}{g:Option (Nat×Bool)}{env:Env}{heap:Heap}{K:aU->Prop}{L:St->Prop}
theorem Qh{x:c6}:dB P ag ⟨dst,.move x,ty,pos,af,g⟩ ⟨env,heap⟩ K=K {v:=ev env x}:=(rfl)
theorem MN{x:c6}:dB P ag ⟨dst,.assign x,ty,pos,af,g⟩ ⟨env,heap⟩ K=K {v:=ev env x}:=(rfl)
theorem Qf{c a b:c6}:dB P ag ⟨dst,.pick c a b,ty,pos,af,g⟩ ⟨env,heap⟩ K=bf (rR (ev env c) (ev env a) (ev env b)) K:=(rfl)
theorem Ox{T:c7}:dB P ag ⟨dst,.alloc T,ty,pos,af,g⟩ ⟨env,heap⟩ K=bf (rE P T heap.length) K:=(rfl)
theorem Q2{T:c7}{x:c6}:dB P ag ⟨dst,.box T x,ty,pos,af,g⟩ ⟨env,heap⟩ K=bf (uu P T heap.length (ev env x)) K:=(rfl)
theorem Ow{T:c7}{a:Array (Nat×c6)}:dB P ag ⟨dst,.build T a,ty,pos,af,g⟩ ⟨env,heap⟩ K=bf (rC P T (a.toList.map fun(i,x)=>(i,ev env x))) K:=(rfl)
theorem JH{T:c7}{n:Nat}{a:Array (Nat×c6)}:dB P ag ⟨dst,.buildSlice T n a,ty,pos,af,g⟩ ⟨env,heap⟩ K=bf (qH P T n (a.toList.map fun(i,x)=>(i,ev env x)) heap.length) K:=(rfl)
theorem PO{T:c7}{a:c6}:dB P ag ⟨dst,.load T a,ty,pos,af,g⟩ ⟨env,heap⟩ K=bf (pX P T heap (ev env a)) K:=(rfl)
theorem Oq{T:c7}{a x:c6}:dB P ag ⟨dst,.store T a x,ty,pos,af,g⟩ ⟨env,heap⟩ K=bf (pN P T heap (ev env a) (ev env x)) K:=(rfl)
theorem Q1{op:dl}{T a:c7}{x y:c6}:dB P ag ⟨dst,.binOp op T x y a,ty,pos,af,g⟩ ⟨env,heap⟩ K=bf (jR P op T (mI y) heap (ev env x) (ev env y)) K:=(rfl)
theorem Q7{op:UnOp}{T:c7}{x:c6}:dB P ag ⟨dst,.unOp op T x,ty,pos,af,g⟩ ⟨env,heap⟩ K=bf (sK op (ev env x)) K:=(rfl)
theorem PR{S D:c7}{x:c6}:dB P ag ⟨dst,.convert S D x,ty,pos,af,g⟩ ⟨env,heap⟩ K=bf (rK P S D heap (ev env x)) K:=(rfl)
theorem LU{t:c6}{i:Nat}:dB P ag ⟨dst,.extract t i,ty,pos,af,g⟩ ⟨env,heap⟩ K=bf (qS (ev env t) i) K:=(rfl)
theorem J6{T:c7}{a:c6}{f:Nat}:dB P ag ⟨dst,.fieldAddr T a f,ty,pos,af,g⟩ ⟨env,heap⟩ K=bf (po P T (ev env a) f) K:=(rfl)
theorem J5{T:c7}{x i:c6}:dB P ag ⟨dst,.indexAddr T x i,ty,pos,af,g⟩ ⟨env,heap⟩ K=bf (pn P T heap (ev env x) (ev env i)) K:=(rfl)
theorem Ov{T:c7}{x i:c6}:dB P ag ⟨dst,.index T x i,ty,pos,af,g⟩ ⟨env,heap⟩ K=bf (rG P T (ev env x) (ev env i)) K:=(rfl)
theorem Q3{x:c6}{a:Array c7}:dB P ag ⟨dst,.call {callee:=.builtin .len,args:=#[x],argTypes:=a},ty,pos,af,g⟩ ⟨env,heap⟩ K=bf (su P (a.getD 0 0) a.size heap (ev env x)) K:=(rfl)
theorem PS{f:c6}{args:List c6}{a:Array c7}:dB P ag ⟨dst,.call {callee:=.value f,args:=args.toArray,argTypes:=a},ty,pos,af,g⟩ ⟨env,heap⟩ K=rB P (ev env f) (args.map (ev env)) heap K:=(rfl)
theorem PB{x:c6}:dA P ag ⟨dst,.move x,ty,pos,af,g⟩ L ⟨env,heap⟩=eC dst ⟨env,heap⟩ L {v:=ev env x}:=(rfl)
theorem L7{x:c6}:dA P ag ⟨dst,.assign x,ty,pos,af,g⟩ L ⟨env,heap⟩=eC dst ⟨env,heap⟩ L {v:=ev env x}:=(rfl)
theorem Pz{c a b:c6}:dA P ag ⟨dst,.pick c a b,ty,pos,af,g⟩ L ⟨env,heap⟩=bf (rR (ev env c) (ev env a) (ev env b)) (eC dst ⟨env,heap⟩ L):=(rfl)
theorem N4{T:c7}:dA P ag ⟨dst,.alloc T,ty,pos,af,g⟩ L ⟨env,heap⟩=bf (rE P T heap.length) (eC dst ⟨env,heap⟩ L):=(rfl)
theorem Sv{T:c7}{x:c6}:dA P ag ⟨dst,.box T x,ty,pos,af,g⟩ L ⟨env,heap⟩=bf (uu P T heap.length (ev env x)) (eC dst ⟨env,heap⟩ L):=(rfl)
theorem N3{T:c7}{a:Array (Nat×c6)}:dA P ag ⟨dst,.build T a,ty,pos,af,g⟩ L ⟨env,heap⟩=bf (rC P T (a.toList.map fun(i,x)=>(i,ev env x))) (eC dst ⟨env,heap⟩ L):=(rfl)
theorem JC{T:c7}{n:Nat}{a:Array (Nat×c6)}:dA P ag ⟨dst,.buildSlice T n a,ty,pos,af,g⟩ L ⟨env,heap⟩=bf (qH P T n (a.toList.map fun(i,x)=>(i,ev env x)) heap.length) (eC dst ⟨env,heap⟩ L):=(rfl)
theorem PC{T:c7}{a:c6}:dA P ag ⟨dst,.load T a,ty,pos,af,g⟩ L ⟨env,heap⟩=bf (pX P T heap (ev env a)) (eC dst ⟨env,heap⟩ L):=(rfl)
theorem Oi{T:c7}{a x:c6}:dA P ag ⟨dst,.store T a x,ty,pos,af,g⟩ L ⟨env,heap⟩=bf (pN P T heap (ev env a) (ev env x)) (eC dst ⟨env,heap⟩ L):=(rfl)
theorem Su{op:dl}{T a:c7}{x y:c6}:dA P ag ⟨dst,.binOp op T x y a,ty,pos,af,g⟩ L ⟨env,heap⟩=bf (jR P op T (mI y) heap (ev env x) (ev env y)) (eC dst ⟨env,heap⟩ L):=(rfl)
theorem SA{op:UnOp}{T:c7}{x:c6}:dA P ag ⟨dst,.unOp op T x,ty,pos,af,g⟩ L ⟨env,heap⟩=bf (sK op (ev env x)) (eC dst ⟨env,heap⟩ L):=(rfl)
theorem PE{S D:c7}{x:c6}:dA P ag ⟨dst,.convert S D x,ty,pos,af,g⟩ L ⟨env,heap⟩=bf (rK P S D heap (ev env x)) (eC dst ⟨env,heap⟩ L):=(rfl)
theorem K6{t:c6}{i:Nat}:dA P ag ⟨dst,.extract t i,ty,pos,af,g⟩ L ⟨env,heap⟩=bf (qS (ev env t) i) (eC dst ⟨env,heap⟩ L):=(rfl)
theorem JX{T:c7}{a:c6}{f:Nat}:dA P ag ⟨dst,.fieldAddr T a f,ty,pos,af,g⟩ L ⟨env,heap⟩=bf (po P T (ev env a) f) (eC dst ⟨env,heap⟩ L):=(rfl)
theorem JW{T:c7}{x i:c6}:dA P ag ⟨dst,.indexAddr T x i,ty,pos,af,g⟩ L ⟨env,heap⟩=bf (pn P T heap (ev env x) (ev env i)) (eC dst ⟨env,heap⟩ L):=(rfl)
theorem N2{T:c7}{x i:c6}:dA P ag ⟨dst,.index T x i,ty,pos,af,g⟩ L ⟨env,heap⟩=bf (rG P T (ev env x) (ev env i)) (eC dst ⟨env,heap⟩ L):=(rfl)
theorem Sw{x:c6}{a:Array c7}:dA P ag ⟨dst,.call {callee:=.builtin .len,args:=#[x],argTypes:=a},ty,pos,af,g⟩ L ⟨env,heap⟩=bf (su P (a.getD 0 0) a.size heap (ev env x)) (eC dst ⟨env,heap⟩ L):=(rfl)
theorem PF{f:c6}{args:List c6}{a:Array c7}:dA P ag ⟨dst,.call {callee:=.value f,args:=args.toArray,argTypes:=a},ty,pos,af,g⟩ L ⟨env,heap⟩=rL P (ev env f) (args.map (ev env)) heap (AX dst ⟨env,heap⟩ L):=(rfl)
theorem Ot{T:c7}{x:c6}{lo hi:Option c6}:dB P ag ⟨dst,.slice T x lo hi none,ty,pos,af,g⟩ ⟨env,heap⟩ K=bf (pP P T heap (ev env x) (lo.map (ev env)) (hi.map (ev env))) K:=(rfl)
theorem NZ{T:c7}{x:c6}{lo hi:Option c6}:dA P ag ⟨dst,.slice T x lo hi none,ty,pos,af,g⟩ L ⟨env,heap⟩=bf (pP P T heap (ev env x) (lo.map (ev env)) (hi.map (ev env))) (eC dst ⟨env,heap⟩ L):=(rfl)
theorem ML{T:c7}{x i:c6}{ok:Bool}:dB P ag ⟨dst,.lookup T x i ok,ty,pos,af,g⟩ ⟨env,heap⟩ K=bf (rO P T heap (ev env x) (ev env i) ok) K:=(rfl)
theorem L5{T:c7}{x i:c6}{ok:Bool}:dA P ag ⟨dst,.lookup T x i ok,ty,pos,af,g⟩ L ⟨env,heap⟩=bf (rO P T heap (ev env x) (ev env i) ok) (eC dst ⟨env,heap⟩ L):=(rfl)
theorem Kj{T:c7}{m k x:c6}:dB P ag ⟨dst,.mapUpdate T m k x,ty,pos,af,g⟩ ⟨env,heap⟩ K=bf (mH P T heap (ev env m) (ev env k) (ev env x)) K:=(rfl)
theorem JU{T:c7}{m k x:c6}:dA P ag ⟨dst,.mapUpdate T m k x,ty,pos,af,g⟩ L ⟨env,heap⟩=bf (mH P T heap (ev env m) (ev env k) (ev env x)) (eC dst ⟨env,heap⟩ L):=(rfl)
theorem MM{T:c7}{m k x:c6}:dB P ag ⟨dst,.insert T m k x,ty,pos,af,g⟩ ⟨env,heap⟩ K=bf (mH P T heap (ev env m) (ev env k) (ev env x)) K:=(rfl)
theorem L6{T:c7}{m k x:c6}:dA P ag ⟨dst,.insert T m k x,ty,pos,af,g⟩ L ⟨env,heap⟩=bf (mH P T heap (ev env m) (ev env k) (ev env x)) (eC dst ⟨env,heap⟩ L):=(rfl)
theorem Ou{T:c7}{x:c6}:dB P ag ⟨dst,.range T x,ty,pos,af,g⟩ ⟨env,heap⟩ K=bf (ry P T heap.length (ev env x)) K:=(rfl)
theorem N1{T:c7}{x:c6}:dA P ag ⟨dst,.range T x,ty,pos,af,g⟩ L ⟨env,heap⟩=bf (ry P T heap.length (ev env x)) (eC dst ⟨env,heap⟩ L):=(rfl)
theorem Qg{it:c6}:dB P ag ⟨dst,.next it true,ty,pos,af,g⟩ ⟨env,heap⟩ K=bf (rW heap (ev env it)) K:=(rfl)
theorem PA{it:c6}:dA P ag ⟨dst,.next it true,ty,pos,af,g⟩ L ⟨env,heap⟩=bf (rW heap (ev env it)) (eC dst ⟨env,heap⟩ L):=(rfl)
theorem Kk{T:c7}{l c:c6}:dB P ag ⟨dst,.makeSlice T l c,ty,pos,af,g⟩ ⟨env,heap⟩ K=bf (rY P T heap.length (ev env l) (ev env c)) K:=(rfl)
theorem JV{T:c7}{l c:c6}:dA P ag ⟨dst,.makeSlice T l c,ty,pos,af,g⟩ L ⟨env,heap⟩=bf (rY P T heap.length (ev env l) (ev env c)) (eC dst ⟨env,heap⟩ L):=(rfl)
theorem Kn{x:c6}:dB P ag ⟨dst,.nilCheck x,ty,pos,af,g⟩ ⟨env,heap⟩ K=bf (rj (ev env x)) K:=(rfl)
theorem KJ{x:c6}:dA P ag ⟨dst,.nilCheck x,ty,pos,af,g⟩ L ⟨env,heap⟩=bf (rj (ev env x)) (eC dst ⟨env,heap⟩ L):=(rfl)
theorem Q6{args:Array c6}{a:Array c7}:dB P ag ⟨dst,.call {callee:=.builtin .min,args,argTypes:=a},ty,pos,af,g⟩ ⟨env,heap⟩ K=bf (ly false (args.toList.map (ev env))) K:=(rfl)
theorem Sy{args:Array c6}{a:Array c7}:dA P ag ⟨dst,.call {callee:=.builtin .min,args,argTypes:=a},ty,pos,af,g⟩ L ⟨env,heap⟩=bf (ly false (args.toList.map (ev env))) (eC dst ⟨env,heap⟩ L):=(rfl)
theorem Q5{args:Array c6}{a:Array c7}:dB P ag ⟨dst,.call {callee:=.builtin .max,args,argTypes:=a},ty,pos,af,g⟩ ⟨env,heap⟩ K=bf (ly true (args.toList.map (ev env))) K:=(rfl)
theorem Sx{args:Array c6}{a:Array c7}:dA P ag ⟨dst,.call {callee:=.builtin .max,args,argTypes:=a},ty,pos,af,g⟩ L ⟨env,heap⟩=bf (ly true (args.toList.map (ev env))) (eC dst ⟨env,heap⟩ L):=(rfl)
theorem LS{T:c7}:dB P ag ⟨dst,.makeMap T none,ty,pos,af,g⟩ ⟨env,heap⟩ K=K {v:=.map heap.length,aS:=[.map false []]}:=(rfl)
theorem LF{T:c7}:dA P ag ⟨dst,.makeMap T none,ty,pos,af,g⟩ L ⟨env,heap⟩=eC dst ⟨env,heap⟩ L {v:=.map heap.length,aS:=[.map false []]}:=(rfl)
theorem MO{s x:c6}{T X:c7}:dB P ag ⟨dst,.call {callee:=.builtin .append,args:=#[s,x],argTypes:=#[T,X]},ty,pos,af,g⟩ ⟨env,heap⟩ K=bf (pM P T X heap (ev env s) (ev env x)) K:=by simp[dB,lB]
theorem L8{s x:c6}{T X:c7}:dA P ag ⟨dst,.call {callee:=.builtin .append,args:=#[s,x],argTypes:=#[T,X]},ty,pos,af,g⟩ L ⟨env,heap⟩=bf (pM P T X heap (ev env s) (ev env x)) (eC dst ⟨env,heap⟩ L):=by simp[dA,lB]
theorem PQ{s x:c6}{T X:c7}:dB P ag ⟨dst,.call {callee:=.builtin .copy,args:=#[s,x],argTypes:=#[T,X]},ty,pos,af,g⟩ ⟨env,heap⟩ K=bf (copyV P T heap (ev env s) (ev env x)) K:=by simp[dB,lB]
theorem PD{s x:c6}{T X:c7}:dA P ag ⟨dst,.call {callee:=.builtin .copy,args:=#[s,x],argTypes:=#[T,X]},ty,pos,af,g⟩ L ⟨env,heap⟩=bf (copyV P T heap (ev env s) (ev env x)) (eC dst ⟨env,heap⟩ L):=by simp[dA,lB]
theorem QY{f:db}{fi ca:List AV}{args:List AV}{M:AV->Heap->Prop}:rL P (.func f fi ca) args heap M=ij P false f (fi++args++ca) heap M:=(rfl)
theorem PT{f:db}{fi ca:List AV}{args:List AV}:rB P (.func f fi ca) args heap K=iw P f (fi++args++ca) heap K:=(rfl)
theorem QZ{f:db}{fi ca:List PV}{args:List AV}{M:AV->Heap->Prop}:rL P (.p (.func f fi ca)) args heap M=ij P false f (fi.map .p++args++ca.map .p) heap M:=(rfl)
theorem Q0{f:db}{fi ca:List PV}{args:List AV}:rB P (.p (.func f fi ca)) args heap K=iw P f (fi.map .p++args++ca.map .p) heap K:=(rfl)
end ops
section
variable{P:c8}
@[simp] theorem aPd{b:Bool}:aL (.bool b)=.leaf:=(rfl)
@[simp] theorem aPv{k:ea}{n:Int}:aL (.int k n)=.leaf:=(rfl)
@[simp] theorem aPA{l:List Nat}:aL (.str l)=.leaf:=(rfl)
@[simp] theorem aPw:aL .aK=.leaf:=(rfl)
@[simp] theorem aPx{l:List PV}:aL (.seq l)=.leaf:=(rfl)
@[simp] theorem aPz{u:c7}{fs:List PV}:aL (.st u fs)=.agg u:=(rfl)
@[simp] theorem aPa{v:PV}:ad (.p v)=aL v:=(rfl)
@[simp] theorem aPc{u:c7}{fs:List AV}:ad (.st u fs)=.agg u:=(rfl)
@[simp] theorem aPb{b v e o l:Nat}:ad (.sl b v e o l)=.leaf:=(rfl)
@[simp] theorem aO9{f:db}{a b:List AV}:ad (.func f a b)=.leaf:=(rfl)
@[simp] theorem aOe{u:c7}{fs:List PV}:cH (.st u fs)=fs:=(rfl)
theorem X8{a:List ec}{Q:PV->Prop}{s:St}:Ar P a Q .ret s=∃vs,fS P s a=some vs/\∃v,eD s.heap 9 (oneOf vs)=some v/\Q v:=by simp[Ar]
theorem V3{a:List ec}{Q:PV->Prop}{s:St}:Ar P a Q .normal s=∃vs,fS P s a=some vs/\∃v,eD s.heap 9 (oneOf vs)=some v/\Q v:=by simp[Ar]
attribute [simp] X8 V3 jO Pa NR Pb S5 NP Pc NQ S6 NT Pd J4 Lr Mn Kq MP OL Og O9 NO O7 NK Mt Ms
 Qh MN Qf Ox Q2 Ow JH PO Oq Q1 Q7 PR LU J6 J5 Ov Q3 PS
 PB L7 Pz N4 Sv N3 JC PC Oi Su SA PE K6 JX JW N2 Sw PF QZ Q0 Ot NZ ML L5 Kj JU MM L6 Ou N1 Qg PA Kk JV Kn KJ Q6 Sy Q5 Sx LS LF MO L8 PQ PD QY PT pM lj pP rO mH xm o9 jW lN nS ry rW rY copyV rj ly ib dH fk fj jP qj mu tS gk iW mh Xp XX
 Vl WA XB Vb VQ Xg
 aN put jg ev ofConst aW im iN oB fc lH gn iC eZ rR rE uu jS rC qH jR uG FV sK rK qS rG su pX pN po pn lenOf ir iV mg bG
 mI fS pQ oneOf eD
end
end Go.au
