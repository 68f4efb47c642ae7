import Derived.Test.YtdjojlnnobkliaaGreatDoorSThA
import Derived.Lib.Strings
import Derived.Laws.Append
import Derived.Laws.StructEq
import Derived.Laws.Concat
import Derived.ChangeKeysEq
import Derived.MapKept
import Derived.Laws.RangeString
import Derived.Lib.UnsafeStr
import Derived.Laws.BytesArg
import Derived.Orders
/- Parts of a proof. -/
set_option linter.unusedSimpArgs false
set_option linter.unusedVariables false
set_option linter.unusedSectionVars false
open Array renaming getElem?_eq_some_iff->b4, getElem?_eq_getElem->b5, ext'->cb, getElem?_toList->cc, length_toList->ce, replicate->ck, toList_push->cv, getD_eq_getD_getElem?->cx, getElem?_push->cy, getD->c6
open BitVec renaming ofInt->c9
open Bool renaming and_eq_true->da, or_eq_true->db, false_eq_true->dg
open Go renaming run_underlying->dk, Operand->dl, TypeId->dp, Program->dq, Value->dz, execOp->ea, FuncId->eb, World->ec, MapEntry->ed, BinOp->ee, setRow_other->ei, run_storeCells_at->ej, setRow_heap->em, IntKind->en, TypeInfo->eo, ResultVar->eq, Frame->ew, Field->e6, Deferred->e7, step_leave_returned->e8, run_firstCells_some->e9, mem_ready->fb, TypeDesc->fd, getD_set_ne->fl, Steps->fm
open Go.Builtin renaming firstCells->fp, append_->fv, lenOf->gb, zeroCells->gc, clear_->ge, copy_->gg, unsafeString_->gi, nextslicecap->gj, min2->gm, max2->gt, unsafeSliceData_->gw, min_->gx, max_->gy, cap_->gB
open Go.ByteArray renaming toList_eq->gE
open Go.Call renaming operands->g0
open Go.Instr renaming findNow->g7, sliceBounds->g8, findAsking->g9, checkKey->ha, slice->hb, findKey->hd, mapUpdate->he, sliceBound->hg, lookup->hh, sliceAt->hj, sameNow->hl, next->hm
open Go.MapKept renaming run_getObj_map->hn, bytes_beq->ho
open Go.Op renaming operands->hp, equalIn->ht, equal->hv, bytesLess->hw, eqFields->hz, eqItems->hA, stringOp->hB
open Go.Region renaming ready->hC, wanted->hD, binds->hE, schedule->hF
open Go.Region.linearise renaming go->hG
open Go.Result renaming andThen_ok->hH, andThen->hJ
open Go.Sem renaming run_bind->hK, run_pure->hL, run->hM
open Go.Steps renaming one->hN, trans->hO, refl->hP
open Go.Utf8 renaming decode->hQ
open Go.Value renaming oneCell'->hR, int->hS
open Go.World renaming freeze->hT, cell?->hU
open List renaming getElem?_eq_some_iff->hV, getElem?_set_self->hW, length_append->hX, replicate->hZ, map_cons->h0, append_nil->h2, mem_cons->h3, getElem?_eq_getElem->h4, mem_of_mem_take->h5, mem_cons_of_mem->h6, getElem?_set_ne->h7, length_eq_zero_iff->h8, map_append->h9, mem_of_mem_drop->ih, map_nil->ii, all_eq_true->ik, size_toArray->ip, append_assoc->ix, contains_iff_mem->iz, any_eq_true->i0, flatten_append->i4, mem_singleton->i5, getElem?_append_left->i6, map_toArray->i7, take_of_length_le->i8, range->i9, map_map->jp, nil_append->js, mem_append->jF, getElem?_eq_none->j1, drop_take->j2, replicate_succ->j3, map_congr_left->j4, length_pos_iff->j5, getElem?_map->j6, length->j7, drop_zero->j8, map->j9, take_succ_cons->kb, mem_map_of_mem->kc, countP_congr->kd, countP_cons->kh, length_map->kk, sum_cons->km, map_take->ko, mem_map->kp, map_id->kt
open Nat renaming le_refl->kv, lt_irrefl->kw, lt_trichotomy->kC, add_zero->kF, zero_add->kK, le_add_right->kN, add_mul->kW, zero_le->la, strongRecOn->lb, zero_mul->lc, succ_mul->le, ne_of_lt->li, le_total->lk
open Ne renaming symm->ll
open Option renaming isSome_iff_exists->lm, map_none->lq, getD_some->ls, map_some->lu
open Option.some renaming injEq->lv, inj->lw
open PUnit renaming unit->lz
open Prod.mk renaming injEq->l0
open UInt8 renaming toNat_ofNat'->l1, toNat_inj->l2, ofNat->l3
namespace Go.aq
set_option linter.unusedSectionVars false
variable[Gl]
section
variable{P:dq}{w:ec}{ad ah:Nat->Prop}{β:Bd}{H:aj}
variable{o:Oper}{ρ:dl->AV}{base:Nat}
theorem kI{x:Option dl}{d:Nat}{R:Nat->Prop}(h:gO (x.map ρ) d R):
 ∃n,R n/\((x=none/\n=d)\/∃y k,x=some y/\ρ y=.p (.int k n)):=by
 cases x with
 |none=>exact⟨d,h,.inl ⟨rfl,rfl⟩⟩
 |some y=>
  simp only[lu,gO]at h
  split at h
  ·rename_i hx;cases hx
  ·rename_i k i hx;simp at hx;obtain⟨a,h⟩:=h;refine⟨i.toNat,h,.inr ⟨y,k,rfl,?_⟩⟩;rw[hx,Int.toNat_of_nonneg a]
  ·exact h.elim
theorem tg{lo hi:Option dl}{ρc:dl->dz}{b:Bool}{len cap d h l:Nat}(m:d=len)(n:(hi=none/\h=d)\/∃y k,hi=some y/\ρ y= .p (.int k h))(o:(lo=none/\l=0)\/∃y k,lo=some y/\ρ y= .p (.int k l))
 (f:h<=cap)(g:l<=h)(e:∀y,(hi=some y\/lo=some y)->aD P w ad β H (ρ y) (ρc y)):(g8 b len cap (lo.map ρc) (hi.map ρc) none).run P w=.ok (l,h,cap) w:=by
 subst m;rcases n with⟨rfl,rfl⟩|⟨y,k,rfl,i⟩<;>rcases o with⟨rfl,rfl⟩|⟨z,q,rfl,j⟩
 ·simp[g8]
 ·have c:=e z (.inr rfl);rw[j]at c;simp only[aD,aF]at c;simp[g8,c,hg,asIntOf,g]
 ·have a:=e y (.inl rfl);rw[i]at a;simp only[aD,aF]at a;simp[g8,a,hg,asIntOf,f]
 ·have a:=e y (.inl rfl);rw[i]at a;simp only[aD,aF]at a;have c:=e z (.inr rfl);rw[j]at c;simp only[aD,aF]at c;simp[g8,a,c,hg,asIntOf,f,g]
theorem sZ{T e:dp}(b:P.underlying T=some (.slice e))(x:dz)(lo hi a:Option dz)(w:ec):(hj T x lo hi a).run P w=(hb T x lo hi a).run P w:=by
 simp only[hj,hK,dk b,hH]
theorem UJ{T:dp}(b:P.underlying T=some .string)(x:dz)(lo hi a:Option dz)(w:ec):(hj T x lo hi a).run P w=(hb T x lo hi a).run P w:=by
 simp only[hj,hK,dk b,hH]
theorem pC{T:dp}{x y:dl}{lo hi b:Option dl}(a:o.op=.slice T x lo hi b)(h:hi=some y\/lo=some y):y∈o.op.operands:=by
 rw[a];simp only[hp];rcases h with rfl|rfl<;>simp
theorem yj{T:dp}(h:iK P T=true):P.underlying T=some .string:=by
 unfold iK at h
 split at h
 ·assumption
 ·simp at h
theorem vp{ai:Nat}:∀{l:List AV},fa P ai l↔∀v∈l,aa v≠.bad/\bG P (aa v)=ai
 |[]=>by simp[fa]
 |v::l=>by simp[fa,vp (l:=l)]
theorem tH{sz ai:Nat}{a:List AV}{d:List (List dz)}(b:Row P w ad β H ai a d)(hs:fa P sz a)(g:a≠[]):ai=sz:=by
 cases a with
 |nil=>exact(g rfl).elim
 |cons v a=>
  rw[qV]at b;obtain⟨c,cs,rfl,e,f,_⟩:=b;have:=(vp.1 hs v s_).2;rw[<-f,(nU e).1,this]
theorem Mu{ai:Nat}{d:List PV}{e:List (List dz)}(h:bg P w ad (hZ d.length ai) d e)(off len:Nat)(f:off+len<=d.length):
 ∃a b c,e=a++b++c/\bg P w ad (hZ ((d.drop off).take len).length ai) ((d.drop off).take len) b/\a.flatten.length=off*ai:=by
 have g:Row P w ad ⟨id,id⟩ [] ai (d.map .p) e:=mi.2 h;obtain⟨a,b,c,e1,e2,e3,_⟩:=jZ g off len (by simpa using f);rw[BS,mi]at e2;exact⟨a,b,c,e1,e2,e3⟩
theorem X9{T:dp}{x:dl}{lo hi N:Option dl}(r:o.op= .slice T x lo hi N){H0:aj}{K:aY->Prop}(h:n9 P T H0 (ρ x) (lo.map ρ) (hi.map ρ) (N.map ρ) K):
 ∃e,K e/\bt P o ρ base e/\(∀p∈e.al,H0[p.1]?=some p.2)/\e.aK=[]:=by
 unfold n9 at h;obtain⟨aq,h⟩:=h;obtain rfl:N=none:=by cases N<;>simp_all
 have J:x∈o.op.operands:=by rw[r];simp[hp]
 split at h
 ·
  rename_i s hx;obtain⟨af,h⟩:=h;have ab:=yj af;obtain⟨l,h,C⟩:=kI h;obtain⟨f,h,D⟩:=kI h;obtain⟨A,B,h⟩:=h;refine⟨_,h,bt.same fun H w ad ah β n v m _=>?_,s_,rfl⟩;have j:=(m x J).1;rw[hx]at j;simp only[aD,aF]at j;obtain⟨bs,e1,e2⟩:=j;have ag:s.length=bs.size:=by rw[e2];simp
  have u:=tg (P:=P) (w:=w) (ad:=ad) (β:=β) (H:=H) (b:=false) (cap:=bs.size) (ρ:=ρ) (ρc:=n) ag C D o_ B (fun y z=>(m y (pC r z)).1);refine⟨.string (bs.extract f l),?_,?_,by simp[aG]⟩
  ·simp only[ea,r,e1];refine eE ?_;rw[UJ ab];simp only[hb,hK,dk ab,hH,lq,Option.isSome_none];simp[u]
  ·simp only[aD,aF];refine⟨_,rfl,?_⟩;rw[e2,<-ko,<-List.map_drop,Go.Lib.extract_data,j2]
 ·
  rename_i hx;obtain⟨g,h⟩:=h;obtain⟨sz,g⟩:=lm.1 g;obtain⟨e,X,g⟩:=kG g;obtain⟨l,h,C⟩:=kI h;obtain⟨f,h,D⟩:=kI h;obtain⟨A,B,F⟩:=h;obtain rfl:l=0:=o_
  obtain rfl:f=0:=o_
  refine⟨_,F,bt.same fun H w ad ah β n v m _=>?_,s_,rfl⟩;have j:=(m x J).1;rw[hx]at j;simp only[aD,aF]at j;have u:=tg (P:=P) (w:=w) (ad:=ad) (β:=β) (H:=H) (b:=true) (cap:=0) (ρ:=ρ) (ρc:=n) (len:=0) (d:=0) rfl C D o_ B (fun y z=>(m y (pC r z)).1);refine⟨.slice none 0 0,?_,by rw[hx];simp[aD,aF],by rw[hx];simp[aG]⟩;simp only[ea,r,j];refine eE ?_;rw[sZ g.gK];simp only[hb,hK,dk g.gK,hH,lq,u,g.run];simp
 ·
  rename_i full q hx;obtain⟨l,h,C⟩:=kI h;obtain⟨f,h,D⟩:=kI h;obtain⟨A,B,h⟩:=h
  split at h
  case h_2=>exact h.elim
  rename_i sz g;obtain⟨U,h⟩:=h;obtain⟨e,X,g⟩:=kG g;refine⟨_,h,bt.same fun H w ad ah β n v m _=>?_,s_,rfl⟩;have j:=(m x J).1;rw[hx]at j;simp only[aD,aF]at j;obtain⟨an,off,cap,ai,Y,v1,v2,v3,v4,v5,sp,V,v6⟩:=j;have W:cap≠f->sp=none:=fun h=>V.resolve_right o_;have u:=tg (P:=P) (w:=w) (ad:=ad) (β:=β) (H:=H) (b:=true) (cap:=cap) (ρ:=ρ) (ρc:=n) rfl C D o_ B (fun y z=>(m y (pC r z)).1);refine⟨.slice (some (if cap=f then⟨an,off,sp⟩else⟨an,off+f*sz,none⟩)) (l-f) (cap-f),?_,?_,by simp[aG]⟩
  ·simp only[ea,r,v6];refine eE ?_;rw[sZ g.gK];simp only[hb,hK,dk g.gK,hH,lq,u,g.run]
   by_cases hc:cap=f
   ·simp[hc]
   ·obtain rfl:=W hc;simp[hc,kM]
  ·have I:((q.take l).drop f).length=l-f:=by simp;omega
   simp only[aD,aF,I]
   by_cases E:q=[]
   ·subst E;simp at A;subst A;obtain rfl:f=0:=by omega
    by_cases hc:cap=0
    ·exact⟨an,off,cap,sz,[],by simp[bg],s_,by intro i hi;simp at hi,fun _=>by simpa using hc,s_,sp,.inr hc,by simp[hc]⟩
    ·exact⟨an,off,cap,sz,[],by simp[bg],s_,by intro i hi;simp at hi,fun hf=>by simp at hf;simpa using v4 hf,s_,none,.inl rfl,by simp[hc]⟩
   ·have Q:ai=sz:=tH (w:=w) (ad:=ad) (β:=β) (H:=H) (mi.2 v1) U (by simpa using E);subst Q;obtain⟨a,b,c,e1,e2,e3⟩:=Mu v1 f (l-f) o_;rw[<-j2]at e2;have ap:(q.drop f).take (l-f)=(q.take l).drop f:=by rw[j2]
    rw[I]at e2
    by_cases hc:cap=f
    ·obtain rfl:l=f:=by omega
     have O:b=[]:=by
      have:=(vc e2).2.2;simpa using this
     subst O;refine⟨an,off,cap-l,ai,[],by simpa using e2,fun _=>v2 E,by intro i hi;simp at hi,?_,o_,sp,.inr o_,by simp[hc]⟩;intro _;omega
    ·refine⟨an,off+f*ai,cap-f,ai,b,e2,fun _=>v2 E,?_,?_,o_,none,.inl rfl,by simp[hc]⟩
     ·have:=tj v3 (pre:=a.flatten) (xs:=b.flatten) (post:=c.flatten) (by rw[e1];simp);rw[e3]at this;exact this
     ·intro hf;simp at hf;have:=v4 hf.1;omega
 ·
  rename_i q hx;obtain⟨l,h,C⟩:=kI h;obtain⟨f,h,D⟩:=kI h;obtain⟨A,B,h⟩:=h
  split at h
  case h_2=>exact h.elim
  rename_i sz g;obtain⟨U,h⟩:=h;obtain⟨e,X,g⟩:=kG g;refine⟨_,h,bt.same fun H w ad ah β n v m _=>?_,s_,rfl⟩;have j:=(m x J).1;rw[hx]at j;simp only[aD,aF]at j;rcases j with⟨rfl,j⟩|⟨an,off,cap,ai,Y,v1,v2,v3,v5,sp,V,v6⟩
  ·simp at A;subst A;obtain rfl:f=0:=by omega
   have u:=tg (P:=P) (w:=w) (ad:=ad) (β:=β) (H:=H) (b:=true) (cap:=0) (ρ:=ρ) (ρc:=n) (len:=0) (d:=0) rfl C D o_ B (fun y z=>(m y (pC r z)).1);refine⟨.slice none 0 0,?_,by simp[aD,aF],by simp[aG]⟩;simp only[ea,r,j];refine eE ?_;rw[sZ g.gK];simp only[hb,hK,dk g.gK,hH,lq,u,g.run];simp
  have W:cap≠f->sp=none:=fun h=>V.resolve_right o_;have u:=tg (P:=P) (w:=w) (ad:=ad) (β:=β) (H:=H) (b:=true) (cap:=cap) (ρ:=ρ) (ρc:=n) rfl C D o_ B (fun y z=>(m y (pC r z)).1);refine⟨.slice (some (if cap=f then⟨an,off,sp⟩else⟨an,off+f*sz,none⟩)) (l-f) (cap-f),?_,?_,by simp[aG]⟩
  ·simp only[ea,r,v6];refine eE ?_;rw[sZ g.gK];simp only[hb,hK,dk g.gK,hH,lq,u,g.run]
   by_cases hc:cap=f
   ·simp[hc]
   ·obtain rfl:=W hc;simp[hc,kM]
  ·have I:((q.take l).drop f).length=l-f:=by simp;omega
   simp only[aD,aF,I];right
   by_cases E:q=[]
   ·subst E;simp at A;subst A;obtain rfl:f=0:=by omega
    by_cases hc:cap=0
    ·exact⟨an,off,cap,sz,[],by simp[bg],s_,by intro i hi;simp at hi,s_,sp,.inr hc,by simp[hc]⟩
    ·exact⟨an,off,cap,sz,[],by simp[bg],s_,by intro i hi;simp at hi,s_,none,.inl rfl,by simp[hc]⟩
   ·have Q:ai=sz:=tH (w:=w) (ad:=ad) (β:=β) (H:=H) (mi.2 v1) U (by simpa using E);subst Q;obtain⟨a,b,c,e1,e2,e3⟩:=Mu v1 f (l-f) o_;rw[<-j2]at e2;rw[I]at e2
    by_cases hc:cap=f
    ·obtain rfl:l=f:=by omega
     have O:b=[]:=by
      have:=(vc e2).2.2;simpa using this
     subst O;exact⟨an,off,cap-l,ai,[],by simpa using e2,fun _=>v2 E,by intro i hi;simp at hi,o_,sp,.inr o_,by simp[hc]⟩
    ·refine⟨an,off+f*ai,cap-f,ai,b,e2,fun _=>v2 E,?_,o_,none,.inl rfl,by simp[hc]⟩;have:=tj v3 (pre:=a.flatten) (xs:=b.flatten) (post:=c.flatten) (by rw[e1];simp);rw[e3]at this;exact this
 ·
  rename_i b aC ai off len hx
  split at h
  case h_2=>exact h.elim
  rename_i k ar ao q S;obtain⟨rfl,rfl,g,M,hlen,h⟩:=h;obtain⟨l,h,C⟩:=kI h;obtain⟨f,h,D⟩:=kI h;obtain⟨A,B,F⟩:=h;obtain⟨e,X,g⟩:=kG g
  have key:∀(H:aj)(w:ec)(ad ah:Nat->Prop)(β:Bd)(n:dl->dz),b7 P w ad β H ah->(∀x∈o.op.operands,aD P w ad β H (ρ x) (n x)/\aG (aI H) (ρ x))->
   H[b]?=some (.arr k aC ai q)->q.length<=β.cap b/\(ea n o).run P w=.ok (.value (.slice (some (if β.cap b-off=f then⟨β.an b,off*ai,none⟩else⟨β.an b,off*ai+f*ai,none⟩)) (l-f) (β.cap b-off-f))) w:=by
   intro H w ad ah β n v m t;have j:=(m x J).1;rw[hx]at j;simp only[aD,bN,bR]at j;obtain⟨_,_,j⟩:=j.2 k q t;have j:=j M;rcases v.cK b _ t with hold|⟨cs,am,Y,rest,k1,k2,k3,k4,k5,k6⟩
   ·exact(M hold).elim
   have u:=tg (P:=P) (w:=w) (ad:=ad) (β:=β) (H:=H) (b:=true) (cap:=β.cap b-off) (ρ:=ρ) (ρc:=n) rfl C D o_ B (fun y z=>(m y (pC r z)).1);refine⟨k5,?_⟩;simp only[ea,r,j];refine eE ?_;rw[sZ g.gK];simp only[hb,hK,dk g.gK,hH,lq,u,g.run]
   by_cases hc:β.cap b-off=f
   ·simp[hc]
   ·simp[hc,kM]
  split at F
  ·rename_i Z;subst Z;refine⟨_,F,bt.same fun H w ad ah β n v m al=>?_,by simpa using S,rfl⟩;have t:H[b]?=some (.arr k aC ai q):=by simpa using al
   obtain⟨ac,L⟩:=key H w ad ah β n v m t;refine⟨_,L,?_,?_⟩
   ·simp only[aD,bN,bR];refine⟨by simp[hR],fun ak ae G=>?_⟩;unfold fh at G;rw[t]at G;cases G;exact⟨o_,fun R=>(M R).elim,fun _=>by simp⟩
   ·simp only[aG];exact⟨_,t,kv _⟩
  ·rename_i Z
   split at F
   ·rename_i aa;subst aa;refine⟨_,F,bt.same fun H w ad ah β n v m al=>?_,by simpa using S,rfl⟩;have t:H[b]?=some (.arr k aC ai q):=by simpa using al
    obtain⟨ac,L⟩:=key H w ad ah β n v m t;refine⟨_,L,?_,by simp[aG]⟩;simp only[aD,aF]
    by_cases hc:β.cap b-off=f
    ·exact⟨β.an b,off*ai,β.cap b-off-f,ai,[],by simp[bg],s_,by intro i hi;simp at hi,s_,s_,by simp[hc]⟩
    ·exact⟨β.an b,off*ai+f*ai,β.cap b-off-f,ai,[],by simp[bg],s_,by intro i hi;simp at hi,s_,s_,by simp[hc]⟩
   ·rename_i aa;refine⟨_,F,bt.same fun H w ad ah β n v m al=>?_,by simpa using S,rfl⟩;have t:H[b]?=some (.arr k aC ai q):=by simpa using al
    obtain⟨ac,L⟩:=key H w ad ah β n v m t;refine⟨_,L,?_,?_⟩
    ·simp only[aD,bN,bR];refine⟨by simp[hR],fun ak ae G=>?_⟩;unfold fh at G;rw[t]at G;cases G;refine⟨o_,fun R=>(M R).elim,fun _=>?_⟩;have hc:¬(β.cap b-off=f):=by omega
     rw[if_neg hc,kW,Nat.sub_sub]
    ·simp only[aG];exact⟨_,t,kv _⟩
 ·exact h.elim
theorem WZ{T:dp}{x:dl}{lo hi:Option dl}{d:dl}(g:o.op= .slice T x lo hi (some d)){H0:aj}{K:aY->Prop}(h:q7 P T H0 (ρ x) (lo.map ρ) (hi.map ρ) (ρ d) K):
 ∃e,K e/\bt P o ρ base e/\(∀p∈e.al,H0[p.1]?=some p.2)/\e.aK=[]:=by
 unfold q7 at h;have S:x∈o.op.operands:=by rw[g];simp[hp]
 split at h
 case h_2=>exact h.elim
 rename_i b aC ai off len hx
 split at h
 case h_2=>exact h.elim
 rename_i k ag ab es V;obtain⟨rfl,rfl,c,E,hlen,X,h⟩:=h;obtain⟨i,h,Q⟩:=kI h;obtain⟨I,h,R⟩:=kI h;have J:gO ((some d).map ρ) 0 (fun m=>off+m<=es.length/\i<=m/\I<=i/\K {v:=.p .undef,al:=[(b,.arr k aC ai es)]}):=h;obtain⟨B,h,U⟩:=kI J;obtain⟨ac,C,L,M⟩:=h;obtain⟨sz,c⟩:=lm.1 c;obtain⟨e,af,c⟩:=kG c;refine⟨_,M,bt.same fun H w ad ah β f W n al=>?_,by simpa using V,rfl⟩;have F:H[b]?=some (.arr k aC ai es):=by simpa using al
 have a:=(n x S).1;rw[hx]at a;simp only[aD,bN,bR]at a;obtain⟨_,_,a⟩:=a.2 k es F;have a:=a E;rcases W.cK b _ F with hold|⟨cs,Z,aa,rest,k1,k2,k3,k4,k5,k6⟩
 ·exact(E hold).elim
 have s:∃q,ρ d=.p (.int q B):=by
  rcases U with⟨h,_⟩|⟨y,q,A,a⟩
  ·cases h
  ·cases A;exact⟨q,a⟩
 obtain⟨q,s⟩:=s;have j:=(n d (by rw[g];simp[hp])).1;rw[s]at j;simp only[aD,aF]at j;have O:∃y G,hi=some y/\ρ y=.p (.int G i):=by
  rcases Q with⟨rfl,_⟩|h
  ·simp at X
  ·exact h
 obtain⟨y,G,rfl,A⟩:=O;have l:=(n y (pC g (.inl rfl))).1;rw[A]at l;simp only[aD,aF]at l;have N:(g8 true len (β.cap b-off) (lo.map f) (some (f y)) (some (f d))).run P w=.ok (I,i,B) w:=by
  have D:(B:Int)<=((β.cap b-off:Nat):Int):=o_
  rcases R with⟨rfl,rfl⟩|⟨z,ae,rfl,Y⟩
  ·simp[g8,j,l,hg,asIntOf,D,C]
  ·have u:=(n z (pC g (.inr rfl))).1;rw[Y]at u;simp only[aD,aF]at u;simp[g8,j,l,u,hg,asIntOf,D,C,L]
 have t:∃r,(hj T (f x) (lo.map f) (some (f y)) (some (f d))).run P w=.ok r w:=by
  rw[sZ c.gK,a];simp only[hb,hK,dk c.gK,hH,N,c.run];exact⟨_,rfl⟩
 obtain⟨r,t⟩:=t;refine⟨r,?_,by simp only[aD,aF],by simp[aG]⟩;simp only[ea,g,lu];exact eE t
end
section
variable{P:dq}{w:ec}{ad ah:Nat->Prop}{β:Bd}{H:aj}
variable{o:Oper}{ρ:dl->AV}{base:Nat}
theorem o9{H0 H:aj}{a:AV}{c:List AV}(h:gY H0 a=some c)(al:∀p∈dD H0 a,H[p.1]?=some p.2):gY H a=some c:=by
 cases a with
 |sl b aC ai off len=>
  simp only[gY]at h⊢;simp only[dD]at al
  split at h
  case h_2=>simp at h
  rename_i k g f e d;rw[d]at al;have:=al _ (i5.2 rfl);simp only at this;rw[this];exact h
 |p v=>cases v<;>exact h
 |_=>simp[gY]at h
theorem nJ{H0:aj}{a:AV}:∀p∈dD H0 a,H0[p.1]?=some p.2:=by
 intro p b;unfold dD at b
 split at b
 all_goals first
  |(split at b
    ·rename_i o c;simp at b;subst b;exact c
    ·simp at b)
  |simp at b
theorem u6{sz m:Nat}{an off n c:Nat}{w:ec}{xs:List dz}(e:xs.length=m*sz)(hc:gZ w an off xs):(fp sz m (.slice (some ⟨an,off,none⟩) n c)).run P w=.ok xs.toArray w:=by
 refine e9 w sz m _ n c xs e ?_;intro j v a;rw[kM];obtain⟨b,d⟩:=hV.1 a;rw[hc j b,d]
theorem BN{sz n c:Nat}{a:Addr}{w:ec}:(fp sz 0 (.slice (some a) n c)).run P w=.ok #[] w:=
 e9 w sz 0 a n c [] s_ (fun j v b=>by simp at b)
theorem vM{sz:Nat}{a:AV}{u:List AV}{v:dz}(g:gY H a=some u)(I:b7 P w ad β H ah)(i:aD P w ad β H a v)(S:aG (aI H) a)(hs:fa P sz u):
 ∃d,Row P w ad β H sz u d/\aV (aI H) u/\gb v=pure u.length/\
  ∀w':ec,w'.heap=w.heap->∀m,m<=u.length->(fp sz m v).run P w'=.ok (d.take m).flatten.toArray w':=by
 have G:∀{f:List AV}{d:List (List dz)}(m:Nat),Row P w ad β H sz f d->m<=f.length->(d.take m).flatten.length=m*sz:=by
  intro f d m h j;obtain⟨x,y,z,e1,e2,e3,e4,e5⟩:=jZ h 0 m o_;have hx:x=[]:=by have:=(fW e4).1;simpa using this
  have O:y.length=m:=by have:=(fW e2).1;simp at this;omega
  subst hx;have K:d.take m=y:=by rw[e1];simp[O]
  rw[K];have:=(fW e2).2;rw[this];simp[j]
 have cells:∀{an off:Nat}{d:List (List dz)}(w':ec),w'.heap=w.heap->gZ w an off d.flatten->∀m,gZ w' an off (d.take m).flatten:=by
  intro an off d w' q hc m;have J:gZ w' an off d.flatten:=hc.same (by rw[q]);have:=tj J (pre:=[]) (xs:=(d.take m).flatten) (post:=(d.drop m).flatten) (by
   rw[js,<-i4,List.take_append_drop])
  simpa using this
 cases a with
 |p t=>
  cases t with
  |aO=>
   simp[gY]at g;subst g;simp only[aD,aF]at i;subst i;exact⟨[],iD.2 rfl,by simp[aV],rfl,fun w' _ m j=>by simp[fp]⟩
  |cT full f=>
   simp[gY]at g;subst g;simp only[aD,aF]at i;obtain⟨an,off,cap,ai,d,v1,v2,v3,v4,v5,sp,E,rfl⟩:=i;rcases E with rfl|rfl
   case inr=>
    obtain rfl:f=[]:=h8.1 o_;exact⟨[],iD.2 rfl,by simp[aV],rfl,fun w' _ m j=>by
     obtain rfl:m=0:=by simpa using j
     exact BN⟩
   have h:Row P w ad β H ai (f.map .p) d:=mi.2 v1;have o:Row P w ad β H sz (f.map .p) d:=by
    by_cases n:f.map AV.p=[]
    ·rw[n]at h⊢;rw[iD]at h⊢;exact h
    ·rw[<-tH h hs n];exact h
   refine⟨d,o,iS _ _,by simp[gb],fun w' q m j=>?_⟩;exact u6 (G m o j) (cells w' q v3 m)
  |seq f=>
   simp[gY]at g;subst g;simp only[aD,aF]at i;rcases i with⟨rfl,rfl⟩|⟨an,off,cap,ai,d,v1,v2,v3,v5,sp,E,rfl⟩
   ·exact⟨[],iD.2 rfl,by simp[aV],rfl,fun w' _ m j=>by simp[fp]⟩
   rcases E with rfl|rfl
   case inr=>
    obtain rfl:f=[]:=h8.1 o_;exact⟨[],iD.2 rfl,by simp[aV],rfl,fun w' _ m j=>by
     obtain rfl:m=0:=by simpa using j
     exact BN⟩
   have h:Row P w ad β H ai (f.map .p) d:=mi.2 v1;have o:Row P w ad β H sz (f.map .p) d:=by
    by_cases n:f.map AV.p=[]
    ·rw[n]at h⊢;rw[iD]at h⊢;exact h
    ·rw[<-tH h hs n];exact h
   refine⟨d,o,iS _ _,by simp[gb],fun w' q m j=>?_⟩;exact u6 (G m o j) (cells w' q v3 m)
  |str s=>
   simp[gY]at g;subst g;simp only[aD,aF]at i;obtain⟨bs,rfl,rfl⟩:=i;have N:sz=1\/bs.data.toList=[]:=by
    cases B:bs.data.toList with
    |nil=>exact .inr rfl
    |cons a r=>
     rw[B]at hs;simp[fa,aa,aL,bG]at hs;exact .inl hs.1.symm
   have h:Row P w ad β H sz ((bs.data.toList.map (·.toNat)).map fun c=>.p (.int .u8 (c:Nat))) (bs.data.toList.map fun c=>[hS .u8 c.toNat]):=by
    rcases N with rfl|B
    ·generalize bs.data.toList=l
     induction l with
     |nil=>exact iD.2 rfl
     |cons a r F=>exact qV.2 ⟨_,_,rfl,by simp[bn,aZ],rfl,F⟩
    ·rw[B];exact iD.2 rfl
   refine⟨_,h,by rw[cM];intro v i;simp at i;obtain⟨a,_,rfl⟩:=i;simp[aG],by simp[gb],fun w' _ m _=>?_⟩;have e:((bs.data.toList.map fun c=>[hS .u8 c.toNat]).take m).flatten=(bs.data.toList.take m).map fun c=>hS .u8 c.toNat:=by
    rw[<-ko];generalize bs.data.toList.take m=l
    induction l with
    |nil=>rfl
    |cons a r F=>simp[F]
   rw[e];simp only[fp,hL];congr 1;apply cb;simp[ByteArray.data_extract]
  |_=>simp[gY]at g
 |sl b aC ai off len=>
  simp only[gY]at g
  split at g
  case h_2=>simp at g
  rename_i k T R f D
  split at g
  case isFalse=>simp at g
  rename_i hc;obtain⟨rfl,rfl,C⟩:=hc;simp at g;subst g;simp only[aD,bN,bR]at i;obtain⟨_,v2,v3⟩:=i.2 k f D;have M:((f.drop off).take len).length=len:=by simp;omega
  by_cases A:dc k f
  ·rw[v2 A];have L:=A.2;subst L;simp at C;obtain⟨rfl,rfl⟩:=C;exact⟨[],iD.2 s_,by simp[aV],rfl,fun w' _ m j=>by simp[fp]⟩
  ·rw[v3 A];rcases I.cK b _ D with hold|⟨cs,Q,d,rest,k1,k2,k3,k4,k5,k6⟩
   ·exact(A hold).elim
   obtain⟨x,y,z,e1,e2,e3,e4,e5⟩:=jZ k2 off len C;have o:Row P w ad β H sz ((f.drop off).take len) y:=by
    by_cases n:(f.drop off).take len=[]
    ·rw[n]at e2⊢;rw[iD]at e2⊢;exact e2
    ·rw[<-tH e2 hs n];exact e2
   refine⟨y,o,?_,by rw[M];rfl,fun w' q m j=>?_⟩
   ·rw[cM];intro v i;exact cM.1 (I.refs b _ D) v (ih (h5 i))
   ·refine u6 (G m o j) (cells w' q ?_ m);rw[<-e3];exact mb k1 (post:=z.flatten++rest) (by rw[k3,e1];simp)
 |_=>simp[gY]at g
theorem WG{T X e:dp}{i:eo}{f:dz}{sz:Nat}(a:qQ P T sz e i)(b:iV P X=true)(y:i.zero=some f)(A:dp){p:Option Addr}{sLen sCap n:Nat}{j h:Array dz}(x:dz)
 (hx:gb x=pure n)(s:(fp sz sLen (.slice p sLen sCap)).run P w.drew=.ok j w.drew)(aX:(fp sz n x).run P w.drew=.ok h w.drew)(q:sCap<sLen+n)(g:sLen+n<=cV):
 ∃cap,sLen+n<=cap/\(fv #[T,X] A #[.slice p sLen sCap,x]).run P w=
  .ok (.slice (some ⟨w.heap.size,0,none⟩) (sLen+n) cap) {w.drew with heap:=w.heap.push (.cells (j++h++gc f.cells (cap-(sLen+n))) e)}:=by
 refine⟨grownCap w (sLen+n) sCap e,by simp[grownCap,Question.cut],?_⟩;have o:∃d,P.underlying X=some d/\∀k,d≠.int k:=by
  unfold iV at b
  split at b
  ·simp at b
  ·rename_i d c v;exact⟨_,v,c⟩
  ·simp at b
 obtain⟨d,c,B⟩:=o;have r:¬(sLen+n<=sCap):=o_
 have m:¬(9223372036854775807<((sLen:Int)+(n:Int))):=by unfold cV at g;omega
 have C:gj (sLen+n) sCap*i.bytes<=281474976710656:=by
  refine growslice_fits q ?_;have:=Nat.mul_le_mul g (Nat.le_of_lt a.bytes);unfold cV at this;omega
 have l:¬(281474976710656<gj (sLen+n) sCap*i.bytes):=o_
 have t:(sizeOf e).run P w=.ok sz w:=a.run w;have u:∀w:ec,(typeInfo e).run P w=.ok i w:=fun w=>by simp[typeInfo,a.info]
 have z:∀w:ec,(zeroValue e).run P w=.ok f w:=fun w=>by simp[zeroValue,typeInfo,a.info,y]
 simp[fv,dk a.gK,dk c,t,u,z,hx,r,m,l,Question.forced,s,aX,newRow,grownCap,Array.append_assoc];rfl
theorem Jn{T X e:dp}{i:eo}{sz:Nat}(j:qQ P T sz e i)(c:iV P X=true)(t:dp){g off:Nat}{sLen sCap n:Nat}{b:Array dz}{h:dp}{a:List dz}(x:dz)
 (hx:gb x=pure n)(o:w.heap[g]?=some (.cells b h (0,0)))(aX:(fp sz n x).run P w=.ok a.toArray w)(l:∀u∈a,u.oneCell'=true)(q:sLen+n<=sCap)(p:off+sLen*sz+a.length<=b.size):
 (fv #[T,X] t #[.slice (some ⟨g,off,none⟩) sLen sCap,x]).run P w=
  .ok (.slice (some ⟨g,off,none⟩) (sLen+n) sCap) (w.setRow g (b.toList.take (off+sLen*sz)++a++b.toList.drop (off+sLen*sz+a.length)).toArray):=by
 have m:∃d,P.underlying X=some d/\∀k,d≠.int k:=by
  unfold iV at c
  split at c
  ·simp at c
  ·rename_i d f s;exact⟨_,s,f⟩
  ·simp at c
 obtain⟨d,f,v⟩:=m;have aN:=ej P g (off+sLen*sz) h a 0 b w o (by simpa using p) l;simp only[kF]at aN;have r:(sizeOf e).run P w=.ok sz w:=j.run w;simp[fv,dk j.gK,dk f,r,hx,q,aX,kM,aN]
theorem VB{T X e:dp}{i:eo}{sz:Nat}(f:qQ P T sz e i)(b:iV P X=true)(m:dp){p:Option Addr}{sLen sCap:Nat}(x:dz)
 (hx:gb x=pure 0)(aX:(fp sz 0 x).run P w=.ok #[] w)(g:sLen<=sCap):
 (fv #[T,X] m #[.slice p sLen sCap,x]).run P w=.ok (.slice p sLen sCap) w:=by
 have j:∃d,P.underlying X=some d/\∀k,d≠.int k:=by
  unfold iV at b
  split at b
  ·simp at b
  ·rename_i d c l;exact⟨_,l,c⟩
  ·simp at b
 obtain⟨d,c,n⟩:=j;have h:(sizeOf e).run P w=.ok sz w:=f.run w;cases p with
 |none=>simp[fv,dk f.gK,dk c,h,hx,g,aX]
 |some a=>simp[fv,dk f.gK,dk c,h,hx,g,aX,storeCells]
theorem bZ.drew{aH:Nat->Prop}{w1 w':ec}{aM:Bd}{H':aj}(a:w1.heap=w.heap)(b:w1.os=w.os/\w1.output=w.output)(h:bZ P ah ad w1 β H aH w' aM H'):bZ P ah ad w β H aH w' aM H':=
 ⟨h.bS,h.fresh,⟨by rw[<-a];exact h.ext.size,fun k hk=>by rw[<-a];exact h.ext.same k hk,h.ext.io.1.trans b.1,h.ext.io.2.trans b.2⟩,h.step,h.rel,h.fS,h.loop⟩
theorem T4(z:Array dz)(n:Nat):(gc z n).size=n*z.size:=by simp[gc]
theorem vU{ai:Nat}:∀{b:List AV}{a:List (List dz)},Row P w ad β H ai b a->∀c∈a.flatten,c.oneCell'=true
 |[],a,h=>by rw[iD]at h;subst h;simp
 |v::b,a,h=>by
  rw[qV]at h;obtain⟨c,cs,rfl,d,_,e⟩:=h;intro x hx;simp only[List.flatten_cons,jF]at hx;exact hx.elim (zn d x) (vU e x)
theorem Row.mono{w':ec}{aH:Nat->Prop}{aM:Bd}{H':aj}(hI:∀k,ad k->aH k)(hs:∀k,ad k->w'.heap[k]?=w.heap[k]?)(aN:cw β H aM H'){ai:Nat}{a:List AV}{b:List (List dz)}(c:aV (aI H) a)
 (h:Row P w ad β H ai a b):Row P w' aH aM H' ai a b:=bM.mono hI hs aN _ _ _ c h
theorem yl{c:Call}{s x:dl}(e:o.op= .call c)(hc:c.callee= .builtin .append)(b:c.args.toList=[s,x]){a:dl->dz}{w w':ec}{v:dz}
 (h:(fv c.argTypes o.type #[a s,a x]).run P w=.ok v w'):(ea a o).run P w=.ok (.value v) w':=by
 have d:c.args=#[s,x]:=by apply cb;simpa using b
 simp only[ea,e,resolve,hc,d];simp[invoke,builtin,h]
theorem Xb{c:Call}{s x:dl}(e:o.op= .call c)(hc:c.callee= .builtin .copy)(b:c.args.toList=[s,x]){a:dl->dz}{w w':ec}{v:dz}
 (h:(gg c.argTypes o.type #[a s,a x]).run P w=.ok v w'):(ea a o).run P w=.ok (.value v) w':=by
 have d:c.args=#[s,x]:=by apply cb;simpa using b
 simp only[ea,e,resolve,hc,d];simp[invoke,builtin,h]
end
section
variable{P:dq}{w:ec}{ad ah:Nat->Prop}{β:Bd}{H:aj}
variable{o:Oper}{ρ:dl->AV}{base:Nat}
theorem x9{c:Call}{s x:dl}(D:o.op= .call c)(hc:c.callee= .builtin .append)(y:c.args.toList=[s,x]){T X e:dp}(I:c.argTypes=#[T,X]){i:eo}{j:dz}{sz:Nat}(u:qQ P T sz e i)(v:iV P X=true)
 (L:i.zero=some j)(M:j.cells.size=sz)(F:b7 P w ad β H ah){g:dl->dz}{p:Option Addr}{b f:Nat}{olds a:List AV}{ocss:List (List dz)}(hs:g s=.slice p b f)(m:olds.length=b)(l:Row P w ad β H sz olds ocss)(E:aV (aI H) olds)
 (C:(fp sz b (.slice p b f)).run P w.drew=.ok ocss.flatten.toArray w.drew)
 (hx:gY H (ρ x)=some a)(K:aD P w ad β H (ρ x) (g x))(J:aG (aI H) (ρ x))(G:fa P sz a)(A:f<b+a.length)(B:b+a.length<=cV):
 ∃cap cells d N,(ea g o).run P w=.ok (.value (.slice (some ⟨w.heap.size,0,none⟩) (b+a.length) cap)) {w.drew with heap:=w.heap.push (.cells cells e)}/\
  Row P w ad β H sz (olds++a) d/\aV (aI H) (olds++a)/\cells.toList=d.flatten++N/\cells.size=cap*sz/\(olds++a).length<=cap:=by
 obtain⟨d,h,q,r,t⟩:=vM hx F K J G;have k:=t w.drew rfl a.length (kv _);have O:d.length=a.length:=(fW h).1;rw[i8 o_]at k;obtain⟨cap,z,n⟩:=WG u v L o.type (sLen:=b) (sCap:=f) (p:=p) (g x) r C k A B;rw[<-I,<-hs]at n;refine⟨cap,_,ocss++d,(gc j.cells (cap-(b+a.length))).toList,yl D hc y n,lI.2 ⟨_,_,rfl,l,h⟩,jY E q,s_,?_,by simpa[m]using z⟩;have e1:=(fW l).2;have e2:=(fW h).2;simp only[Array.size_append,ip,T4,M,e1,e2,m,<-kW];congr 1;omega
theorem uh{T:dp}:gk P T≠.frozen/\gk P T≠.exact:=by
 unfold gk;split<;>simp
theorem Ey{T e:dp}(h:ek P T=e)(hk:gk P T=.bytes):e=Gl.u8:=by
 unfold gk at hk
 split at hk
 ·rename_i a;rw[<-h];exact a
 ·cases hk
theorem CE{_o':Obj}{k:AK}{a:List AV}{b:List (List dz)}{r:List dz}{cells:Array dz}{e:dp}{cap sz:Nat}(j:b7 P w ad β H ah)(c:H[base]?=some .hole)
 (g:k≠.frozen)(i:¬dc k a)(m:Row P w ad β H sz a b)(d:aV (aI H) a)(hc:cells.toList=b.flatten++r)(o:cells.size=cap*sz)(h:a.length<=cap)(f:k=.exact->cap=a.length)(p:k=.bytes->e=Gl.u8):
 bZ P ah ad w β H ad {w.drew with heap:=w.heap.push (.cells cells e)} (β.at base w.heap.size cap) (bc H ([]++newAt base [.arr k 0 sz a]))/\
 aD P {w.drew with heap:=w.heap.push (.cells cells e)} ad (β.at base w.heap.size cap) (bc H ([]++newAt base [.arr k 0 sz a])) (.sl base 0 sz 0 a.length) (.slice (some ⟨w.heap.size,0,none⟩) a.length cap)/\
 aG (aI (bc H ([]++newAt base [.arr k 0 sz a]))) (.sl base 0 sz 0 a.length):=by
 have l:b7 P w.drew ad β H ah:=b7.yE (w:=w) (w':=w.drew) rfl j;have n:Row P w.drew ad β H sz a b:=Row.mono (w:=w) (w':=w.drew) (fun _ x=>x) (fun _ _=>rfl) (cw.refl _ _) d m;obtain⟨q1,q⟩:=Cb (T:=e) (k:=k) l c g i n d hc o h f p;rw[l6];exact⟨bZ.drew (w1:=w.drew) rfl ⟨rfl,rfl⟩ q1,q,⟨_,hW (hV.1 c).1,kv _⟩⟩
theorem LA{b:Nat}{k k':AK}{aC ai:Nat}{i es':List AV}{an cap:Nat}(f:H[b]?=some (.arr k aC ai i)):cw β H (β.at b an cap) (H.set b (.arr k' (aC+1) ai es')):=by
 have j:b<H.length:=(hV.1 f).1;have c:∀x,x≠b->(H.set b (.arr k' (aC+1) ai es'))[x]?=H[x]?:=fun x hx=>h7 (ll hx);have a:(H.set b (.arr k' (aC+1) ai es'))[b]?=some (.arr k' (aC+1) ai es'):=hW j;refine⟨?_,?_,?_,?_,?_⟩
 ·rintro x _ ⟨fz,t,h⟩
  by_cases hx:x=b
  ·subst hx;rw[a]at h;cases h
  ·rw[c x hx]at h;exact⟨⟨fz,t,h⟩,by simp[Bd.at,hx]⟩
 ·rintro x _ ⟨fz,t,h⟩
  by_cases hx:x=b
  ·subst hx;rw[a]at h;cases h
  ·rw[c x hx]at h;exact⟨⟨fz,t,h⟩,by simp[Bd.at,hx]⟩
 ·rintro x _ ⟨n,h,e⟩
  by_cases hx:x=b
  ·subst hx;rw[a]at h;cases h;exact e.elim
  ·rw[c x hx]at h;exact⟨⟨n,h,e⟩,by simp[Bd.at,hx]⟩
 ·intro x v z m g hi h;unfold fh at h
  by_cases hx:x=b
  ·subst hx;rw[a]at h;cases h;obtain⟨o,d,l⟩:=hi;simp only at d;rw[f]at d;cases d;simp only[Obj.has]at l;omega
  ·rw[c x hx]at h;exact⟨m,g,h,kv _,Iff.rfl,fun _=>by simp[Bd.at,hx]⟩
 ·rintro x _ ⟨L,h⟩
  by_cases hx:x=b
  ·subst hx;rw[a]at h;cases h
  ·rw[c x hx]at h;exact⟨⟨L,h⟩,by simp[Bd.at,hx]⟩
theorem Bd.Xl(β:Bd)(b:Nat):β.at b (β.an b) (β.cap b)=β:=by
 cases β with
 |mk an cap=>
  simp only[Bd.at,Bd.mk.injEq];constructor
  ·funext x;split
   ·rename_i h;rw[h]
   ·rfl
  ·funext x;split
   ·rename_i h;rw[h]
   ·rfl
theorem BV{α:Type}(A M Z X:List α):(A++M++Z).take A.length++X++(A++M++Z).drop (A.length+M.length)=A++X++Z:=by
 rw[ix A M Z,List.take_left,<-ix,<-hX,List.drop_left]
theorem W1{c:Call}{s x:dl}(Y:o.op= .call c)(hc:c.callee= .builtin .append)(W:c.args.toList=[s,x])(bT:c.argTypes.size=2){H0:aj}{K:aY->Prop}
 (h:nS P (c.argTypes.getD 0 0) (c.argTypes.getD 1 0) H0 (ρ s) (ρ x) K):
 ∃e,K e/\bt P o ρ H0.length e/\(∀p∈e.al,H0[p.1]?=some p.2)/\(∀p∈e.aK,p.1<H0.length/\p.2≠.hole):=by
 obtain⟨T,X,S⟩:∃T X,c.argTypes=#[T,X]:=by
  obtain⟨l,I⟩:∃l,l=c.argTypes.toList:=⟨_,rfl⟩
  have af:l.length=2:=by rw[I];simpa using bT
  match l,af with
  |[a,b],_=>exact⟨a,b,by apply cb;simp[<-I]⟩
 have B:s∈o.op.operands/\x∈o.op.operands:=by
  have bF:c.args=#[s,x]:=by apply cb;simpa using W
  rw[Y];simp[hp,g0,hc,bF]
 have e1:c.argTypes.getD 0 0=T:=by rw[S];rfl
 have e2:c.argTypes.getD 1 0=X:=by rw[S];rfl
 rw[e1,e2]at h;unfold nS at h
 split at h
 case h_2=>exact h.elim
 rename_i sz g F hx;obtain⟨ag,a9,am,h⟩:=h;obtain⟨e,i,F⟩:=kG F;obtain⟨z,a9⟩:=lm.1 a9;obtain⟨b2,bY,z1,z2,z3,z4⟩:=qN a9;rw[F.qB]at z1 z4;rw[F.info]at z1;cases z1;have aU:bY.cells.size=sz:=by
  obtain⟨_,i2,k1,k2⟩:=ya (v:=.p z) (w:=default) (ad:=fun _=>False) (β:=⟨id,id⟩) (H:=[]) z4 (by simp only[bn];exact z3 _ _);rw[F.info]at k1;cases k1;have:=F.size;simp at k2;omega
 have bb:∀{al:List (Nat×Obj)},(∀p∈dD H0 (ρ x),p∈al)->(∀p∈al,H0[p.1]?=some p.2)->g=[]->(∀(H:aj)(w:ec)(ad ah:Nat->Prop)(β:Bd)(v:dz),b7 P w ad β H ah->(∀p∈al,H[p.1]?=some p.2)->aD P w ad β H (ρ s) v->∃p a b,v= .slice p a b/\a<=b)->
  bt P o ρ H0.length {v:=ρ s,al}:=by
  intro al bS av bU bP;subst bU;refine bt.same fun H w ad ah β au f j al=>?_;obtain⟨p,a,b,u,bE⟩:=bP H w ad ah β _ f al (j s B.1).1;obtain⟨E,C,af,bB,bC⟩:=vM (o9 hx (fun p u=>al p (bS p u))) f (j x B.2).1 (j x B.2).2 am;have bj:=bC w rfl 0 (kv _);simp only[List.take_zero,List.flatten_nil]at bj;have R:=VB F ag o.type (p:=p) (sLen:=a) (sCap:=b) _ bB bj bE;rw[<-S,<-u]at R;exact⟨_,yl Y hc W R,by rw[u];exact u▸(j s B.1).1,(j s B.1).2⟩
 have ba:∀l:List AV,l.isEmpty=true->l=[]:=fun l h=>by simpa using h
 split at h
 ·
  rename_i hs
  split at h
  ·rename_i G;refine⟨_,h,?_,nJ,s_⟩;exact bb (fun p u=>u) nJ (ba _ G) (fun H w ad ah β v _ _ A=>by rw[hs]at A;simp only[aD,aF]at A;exact⟨_,_,_,A,kv _⟩)
  ·rename_i G;obtain⟨bp,h⟩:=h;refine⟨_,h,?_,nJ,s_⟩;intro H w ad ah β au f j al aE;have ak:H[H0.length]?=some .hole:=by simpa using aE 0 s_
   have Q:=(j s B.1).1;rw[hs]at Q;simp only[aD,aF]at Q;have br:0<g.length:=j5.2 (by simpa using G);obtain⟨cap,cells,E,D,ab,ao,ac,ap,aq,ar⟩:=x9 Y hc W S F ag z2 aU f Q (olds:=[]) (ocss:=[]) rfl (iD.2 rfl) (by simp[aV]) (by simp[fp])
    (o9 hx al) (j x B.2).1 (j x B.2).2 am o_ o_
   obtain⟨q1,Z,aa⟩:=CE (base:=H0.length) (k:=gk P T) (e:=e) (_o':=.hole) f ak uh.1 (fun q=>G (by simpa using q.2)) ao ac ap aq ar (fun h=>(uh.2 h).elim) (Ey F.qB);simp only[js,kK]at ab q1 Z aa;exact⟨_,_,_,_,ad,ab,.inl rfl,q1,Z,aa⟩
 ·
  rename_i full d hs;obtain⟨bG,h⟩:=h
  have Q:∀{H:aj}{w:ec}{ad:Nat->Prop}{β:Bd}{v:dz},aD P w ad β H (ρ s) v->∃p c N,v= .slice p d.length c/\d.length<=c/\(full=true->c=d.length)/\Row P w ad β H sz (d.map .p) N/\
   (∀w':ec,w'.heap=w.heap->(fp sz d.length v).run P w'=.ok N.flatten.toArray w'):=by
   intro H w ad β v A;rw[hs]at A;simp only[aD,aF]at A;obtain⟨an,off,cap,ai,E,v1,v2,v3,v4,v5,sp,bQ,rfl⟩:=A;rcases bQ with rfl|rfl
   case inr=>
    obtain rfl:d=[]:=h8.1 o_;exact⟨_,_,[],rfl,s_,s_,iD.2 rfl,fun w' _=>BN⟩
   have aL:Row P w ad β H ai (d.map .p) E:=mi.2 v1;have bw:Row P w ad β H sz (d.map .p) E:=by
    by_cases bq:d.map AV.p=[]
    ·rw[bq]at aL⊢;rw[iD]at aL⊢;exact aL
    ·rw[<-tH aL bG bq];exact aL
   refine⟨_,_,E,rfl,v5,v4,bw,fun w' a8=>u6 (by have:=(fW bw).2;simpa using this) (v3.same (by rw[a8]))⟩
  split at h
  ·rename_i G;refine⟨_,h,?_,nJ,s_⟩;exact bb (fun p u=>u) nJ (ba _ G) (fun H w ad ah β v _ _ A=>by obtain⟨p,c,_,C,af,_⟩:=Q A;exact⟨p,_,c,C,af⟩)
  ·rename_i G;obtain⟨hf,bp,h⟩:=h;refine⟨_,h,?_,nJ,s_⟩;intro H w ad ah β au f j al aE;have ak:H[H0.length]?=some .hole:=by simpa using aE 0 s_
   have br:0<g.length:=j5.2 (by simpa using G);obtain⟨p,cp,N,s1,s2,bW,bX,bA⟩:=Q (j s B.1).1;rw[s1]at bA;obtain⟨cap,cells,E,D,ab,ao,ac,ap,aq,ar⟩:=x9 Y hc W S F ag z2 aU f s1 (olds:=d.map .p) s_ bX (iS _ _) (bA w.drew rfl)
    (o9 hx al) (j x B.2).1 (j x B.2).2 am (by have:=bW hf;omega) o_
   obtain⟨q1,Z,aa⟩:=CE (base:=H0.length) (k:=gk P T) (e:=e) (_o':=.hole) f ak uh.1 (fun q=>G (by have:=q.2;simp at this;simp[this.2])) ao ac ap aq ar (fun h=>(uh.2 h).elim) (Ey F.qB);simp only[hX,kk]at Z aa;exact⟨_,_,_,_,ad,ab,.inl rfl,q1,Z,aa⟩
 ·
  rename_i b aC ai off len hs
  split at h
  case h_2=>exact h.elim
  rename_i k b3 b0 d a6;obtain⟨rfl,rfl,rfl,hlen,h⟩:=h;have av:∀p∈(b,Obj.arr k aC ai d)::dD H0 (ρ x),H0[p.1]?=some p.2:=by
   intro p u;rcases h3.1 u with rfl|u
   ·exact a6
   ·exact nJ p u
  have Q:∀{H:aj}{w:ec}{ad ah:Nat->Prop}{β:Bd}{v:dz},b7 P w ad β H ah->H[b]?=some (.arr k aC ai d)->aD P w ad β H (ρ s) v->
   (dc k d/\v=.slice none 0 0/\len=0)\/(¬dc k d/\v=.slice (some ⟨β.an b,off*ai,none⟩) len (β.cap b-off)/\
   ∃cs T E D,w.heap[β.an b]?=some (.cells cs T (0,0))/\Row P w ad β H ai d E/\cs.toList=E.flatten++D/\
   cs.size=β.cap b*ai/\d.length<=β.cap b/\(k=.exact->β.cap b=d.length)/\cE ad β ah (k== .frozen) b/\(k=.bytes->T=Gl.u8)):=by
   intro H w ad ah β v f t A;rw[hs]at A;simp only[aD,bN,bR]at A;obtain⟨_,v2,v3⟩:=A.2 k d t
   by_cases q:dc k d
   ·exact .inl ⟨q,v2 q,by have:=q.2;subst this;simp at hlen;omega⟩
   ·rcases f.cK b _ t with hold|⟨cs,O,E,D,k1,k2,k3,k4,k5,k6,k7,k8⟩
    ·exact(q hold).elim
    ·exact .inr ⟨q,v3 q,cs,O,E,D,k1,k2,k3,k4,k5,k6,k7,k8.2⟩
  have holds:∀{H:aj}{w:ec}{ad:Nat->Prop}{β:Bd}{cs:Array dz}{O:dp}{E:List (List dz)}{D:List dz},w.heap[β.an b]?=some (.cells cs O (0,0))->Row P w ad β H ai d E->cs.toList=E.flatten++D->
   ∃N,Row P w ad β H ai ((d.drop off).take len) N/\∀(w':ec)(n c:Nat),w'.heap=w.heap->(fp ai len (.slice (some ⟨β.an b,off*ai,none⟩) n c)).run P w'=.ok N.flatten.toArray w':=by
   intro H w ad β cs O E D k1 k2 k3;obtain⟨a,m,z,g1,g2,g3,g4,g5⟩:=jZ k2 off len hlen;refine⟨m,g2,fun w' n c a8=>u6 (by have:=(fW g2).2;rw[this];congr 1;simp;omega) ?_⟩;have:=mb k1 (pre:=a.flatten) (xs:=m.flatten) (post:=z.flatten++D) (by rw[k3,g1];simp);rw[g3]at this;exact this.same (by rw[a8])
  split at h
  ·rename_i G;refine⟨_,h,?_,av,s_⟩;refine bb (fun p u=>h6 _ u) av (ba _ G) (fun H w ad ah β v f al A=>?_);rcases Q f (al (b,_) s_) A with⟨_,C,_⟩|⟨q,C,cs,O,E,D,af⟩
   ·exact⟨_,_,_,C,kv _⟩
   ·exact⟨_,_,_,C,o_⟩
  ·rename_i G;have br:0<g.length:=j5.2 (by simpa using G);obtain⟨bp,h⟩:=h
   split at h
   ·exact h.elim
   ·
    split at h
    ·rename_i ax;refine⟨_,h,?_,av,by simpa using(hV.1 a6).1⟩;intro H w ad ah β au f j al _;have t:H[b]?=some (.arr .exact aC ai d):=al (b,_) s_;rcases Q f t (j s B.1).1 with⟨q,_⟩|⟨q,C,cs,O,E,D,k1,k2,k3,k4,k5,k6,k7,k8⟩
     ·cases q.1
     obtain⟨M,V,bd,be,bf⟩:=vM (o9 hx (fun p u=>al p (h6 _ u))) f (j x B.2).1 (j x B.2).2 am;have aP:=bf w rfl g.length (kv _);rw[i8 (by have:=(fW V).1;omega)]at aP;have bm:=k6 rfl;obtain⟨a,m,ae,g1,g2,g3,g4,g5⟩:=jZ k2 (off+len) g.length ax;have ay:=(fW V).2;have aw:m.flatten.length=g.length*ai:=by have:=(fW g2).2;rw[this];congr 1;simp;omega
     have aQ:cs.toList=a.flatten++m.flatten++(ae.flatten++D):=by rw[k3,g1];simp
     have bl:a.flatten.length=off*ai+len*ai:=by rw[g3,kW]
     have bx:cs.size=a.flatten.length+m.flatten.length+(ae.flatten++D).length:=by
      have:=congrArg j7 aQ;simp only[hX,ce]at this;rw[this,hX]
     have R:=Jn F ag o.type (sLen:=len) (sCap:=β.cap b-off) _ be k1 aP (vU V) o_ (by rw[ay,bx,bl,aw];exact kN _ _);rw[<-S,<-C]at R;have aX:cs.toList.take (off*ai+len*ai)++M.flatten++cs.toList.drop (off*ai+len*ai+M.flatten.length)=a.flatten++M.flatten++(ae.flatten++D):=by
      rw[aQ,<-bl,ay,<-aw];exact BV _ _ _ _
     rw[aX]at R;have aN:cw β H β (H.set b (.arr .exact aC ai (d.take (off+len)++g++d.drop (off+len+g.length)))):=pB t (.inr (.inl ⟨_,_,_,_,_,rfl,rfl,by simp;omega⟩));have aB:¬ad (β.an b)/\¬ah (β.an b):=by
      unfold cE at k7;rw[if_neg s_]at k7;exact k7
     have a7:∀J,ad J->(w.setRow (β.an b) (a.flatten++M.flatten++(ae.flatten++D)).toArray).heap[J]?=w.heap[J]?:=fun J a3=>ei w _ J _ (fun a2=>aB.1 (a2▸a3));have hrefs:aV (aI H) (d.take (off+len)++g++d.drop (off+len+g.length)):=by
      have bs:=cM.1 (f.refs b _ t);refine jY (jY ?_ bd) ?_
      ·rw[cM];exact fun v A=>bs v (h5 A)
      ·rw[cM];exact fun v A=>bs v (ih A)
     have aR:=mj t (o:=.arr .exact aC ai (d.take (off+len)++g++d.drop (off+len+g.length))) (fun _ h=>h);have a4:(d.take (off+len)++g++d.drop (off+len+g.length)).length=d.length:=by simp;omega
     have aK:=qK f t q (o':=.arr .exact aC ai (d.take (off+len)++g++d.drop (off+len+g.length))) (fun U=>by cases U.1) (fun _ h=>h) k1 (new:=(a.flatten++M.flatten++(ae.flatten++D)).toArray) aB aN
      (.inr ⟨_,O,a++M++ae,D,em w _ _ _ O _ k1,by
       refine Row.mono (fun _ x=>x) a7 aN hrefs (lI.2 ⟨_,_,rfl,lI.2 ⟨_,_,rfl,g4,V⟩,g5⟩),s_,by
       rw[<-k4,bx];simp only[ip,hX,ay,aw],by rw[a4];exact k5,fun _=>by rw[a4];exact bm,k7,(fun aS=>by cases aS),k8⟩) (aV.mono aR _ hrefs)
     refine⟨_,_,_,β,ad,yl Y hc W R,.inl rfl,aK,?_,?_⟩
     ·simp only[aD,bN,bR,bc,newAt,h2];refine⟨by simp[hR],fun J bh I=>?_⟩;unfold fh at I;rw[hW (hV.1 t).1]at I;cases I;exact⟨by rw[a4];omega,(fun U=>by cases U.1),fun _=>trivial⟩
     ·simp only[aG];exact⟨_,hW (hV.1 t).1,kv _⟩
    ·rename_i ax;refine⟨_,h,?_,av,s_⟩;intro H w ad ah β au f j al aE;have ak:H[H0.length]?=some .hole:=by simpa using aE 0 s_
     have t:H[b]?=some (.arr .exact aC ai d):=al (b,_) s_;rcases Q f t (j s B.1).1 with⟨q,_⟩|⟨q,C,cs,O,E,D,k1,k2,k3,k4,k5,k6,k7,k8⟩
     ·cases q.1
     have bm:=k6 rfl;obtain⟨N,aO,aW⟩:=holds k1 k2 k3;have bo:((d.drop off).take len).length=len:=by simp;omega
     obtain⟨cap,cells,bg,bz,ab,ao,ac,ap,aq,ar⟩:=x9 Y hc W S F ag z2 aU f C (olds:=(d.drop off).take len) bo aO
      (by rw[cM];exact fun v A=>cM.1 (f.refs b _ t) v (ih (h5 A))) (aW w.drew _ _ rfl)
      (o9 hx (fun p u=>al p (h6 _ u))) (j x B.2).1 (j x B.2).2 am o_ o_
     obtain⟨q1,Z,aa⟩:=CE (base:=H0.length) (k:=gk P T) (e:=e) (_o':=.hole) f ak uh.1 (fun q=>G (by have:=q.2;simp at this;simp[this.2])) ao ac ap aq ar (fun h=>(uh.2 h).elim) (Ey F.qB);rw[hX,bo]at Z aa;exact⟨_,_,_,_,ad,ab,.inl rfl,q1,Z,aa⟩
   ·
    rename_i bI bJ;obtain⟨rfl,bK,h⟩:=h;have aJ:k≠.frozen:=fun e=>bI e;have aS:k≠.exact:=fun e=>bJ e;have b1:(k==AK.frozen)=false:=by simpa using aJ
    refine⟨_,h,?_,av,by simpa using(hV.1 a6).1⟩;intro H w ad ah β au f j al _;have t:H[b]?=some (.arr k aC ai d):=al (b,_) s_;have az:b<H.length:=(hV.1 t).1;have aT:(d.take len).length=len:=by simp;omega
    have bv:aV (aI H) (d.take len):=by rw[cM];exact fun v A=>cM.1 (f.refs b _ t) v (h5 A)
    have a5:¬dc k (d.take len++g):=fun U=>G (by have:=U.2;simp at this;simp[this.2]);have aR:=mj t (o:=.arr k (aC+1) ai (d.take len++g)) (fun v h=>by simp only[Obj.has]at h⊢;omega)
    have bi:∀(p:Option Addr)(a0:Nat)(N:List (List dz)),au s= .slice p len a0->Row P w ad β H ai (d.take len) N->(fp ai len (.slice p len a0)).run P w.drew= .ok N.flatten.toArray w.drew->a0<len+g.length->
     ∃n a1 w' aM aH,(ea au o).run P w=.ok n w'/\(n=.value a1\/n=.skip/\a1=undef)/\
      bZ P ah ad w β H aH w' aM (H.set b (.arr k (aC+1) ai (d.take len++g)))/\aD P w' aH aM (H.set b (.arr k (aC+1) ai (d.take len++g))) (.sl b (aC+1) ai 0 (len+g.length)) a1/\
      aG (aI (H.set b (.arr k (aC+1) ai (d.take len++g)))) (.sl b (aC+1) ai 0 (len+g.length)):=by
     intro p a0 N C bM bL bH;obtain⟨cap,cells,bg,bz,ab,ao,ac,ap,aq,ar⟩:=x9 Y hc W S F ag z2 aU f C (olds:=d.take len) aT bM bv bL
      (o9 hx (fun p u=>al p (h6 _ u))) (j x B.2).1 (j x B.2).2 am bH o_
     have aN:=LA (β:=β) (k':=k) (es':=d.take len++g) (an:=w.heap.size) (cap:=cap) t;have aK:bZ P ah ad w β H ad {w.drew with heap:=w.heap.push (.cells cells e)} (β.at b w.heap.size cap) (H.set b (.arr k (aC+1) ai (d.take len++g))):=by
      refine bZ.set f az (fun y bV=>by simp[Bd.at,bV]) (fun _ y=>y) (fun _ y=>.inl y) (fun k hk=>by have:=f.bS k hk;simp;omega) s_
       (fun k _ hk=>by simp[cy,li hk]) (fun _=>.inl (by simp[Bd.at])) aN
       (.inr ⟨cells,e,bg,bz,by simp[Bd.at],Row.mono (fun _ y=>y) (fun k hk=>by have:=f.bS k hk;simp[cy,li this]) aN ac ao,ap,by simp[Bd.at,aq],by simpa[Bd.at]using ar,(fun aA=>(aS aA).elim),by
        unfold cE;rw[if_neg (by simpa using aJ)];simp only[Bd.at,if_true];exact⟨fun h=>kw _ (f.bS _ h),fun h=>kw _ (f.eM _ h)⟩,(fun aA=>(aJ aA).elim),fun ak=>F.qB▸bK ak⟩)
       (aV.mono aR _ ac) (fun aO v C af=>by rw[t]at C;cases C;simp only[Obj.has]at af⊢;omega) (fun L bk=>by rw[t]at bk;cases bk)
     refine⟨_,_,_,_,ad,ab,.inl rfl,aK,?_,?_⟩
     ·simp only[aD,bN,bR];refine⟨by simp[hR],fun J bh I=>?_⟩;unfold fh at I;rw[hW az]at I;cases I;exact⟨by rw[hX,aT];omega,fun U=>(a5 U).elim,fun _=>by simp[Bd.at]⟩
     ·simp only[aG];exact⟨_,hW az,kv _⟩
    simp only[bc,newAt,h2];rcases Q f t (j s B.1).1 with⟨q,C,rfl⟩|⟨q,C,cs,O,E,D,k1,k2,k3,k4,k5,k6,k7,k8⟩
    ·exact bi none 0 [] C (by simp[iD]) (by simp[fp]) o_
    ·simp only[lc,Nat.sub_zero]at C
     by_cases ax:len+g.length<=β.cap b
     ·
      obtain⟨M,V,bd,be,bf⟩:=vM (o9 hx (fun p u=>al p (h6 _ u))) f (j x B.2).1 (j x B.2).2 am;have aP:=bf w rfl g.length (kv _);rw[i8 (by have:=(fW V).1;omega)]at aP;obtain⟨a,m,ae,g1,g2,g3,g4,g5⟩:=jZ k2 0 len hlen;have bD:a=[]:=by have:=(fW g4).1;simpa using this
      subst bD;have ay:=(fW V).2;have aw:m.flatten.length=len*ai:=by have:=(fW g2).2;rw[this];congr 1
      have aQ:cs.toList=m.flatten++(ae.flatten++D):=by rw[k3,g1];simp
      have bO:=Nat.mul_le_mul_right ai ax;rw[kW]at bO;have R:=Jn F ag o.type (off:=0) (sLen:=len) (sCap:=β.cap b) _ be k1 aP (vU V) ax (by rw[ay,k4];omega);rw[<-S,<-C]at R;obtain⟨aZ,bu⟩:∃r,r=cs.toList.drop (len*ai+M.flatten.length):=⟨_,rfl⟩
      have aX:cs.toList.take (0+len*ai)++M.flatten++cs.toList.drop (0+len*ai+M.flatten.length)=(m++M).flatten++aZ:=by
       rw[kK,<-bu];congr 1;rw[aQ,<-aw];simp
      rw[aX]at R;have aB:¬ad (β.an b)/\¬ah (β.an b):=by
       unfold cE at k7;rw[if_neg (by simpa using aJ)]at k7;exact k7
      have aN:cw β H β (H.set b (.arr k (aC+1) ai (d.take len++g))):=by
       have:=LA (β:=β) (k':=k) (es':=d.take len++g) (an:=β.an b) (cap:=β.cap b) t
       rwa [Bd.Xl]at this
      have a7:∀J,ad J->(w.setRow (β.an b) ((m++M).flatten++aZ).toArray).heap[J]?=w.heap[J]?:=fun J a3=>ei w _ J _ (fun a2=>aB.1 (a2▸a3));have hrefs:aV (aI H) (d.take len++g):=jY bv bd;have aK:=qK f t q (o':=.arr k (aC+1) ai (d.take len++g)) a5 (fun v h=>by simp only[Obj.has]at h⊢;omega) k1 (new:=((m++M).flatten++aZ).toArray) aB aN
       (.inr ⟨_,O,m++M,aZ,em w _ _ _ O _ k1,by
        refine Row.mono (fun _ x=>x) a7 aN hrefs (lI.2 ⟨_,_,rfl,?_,V⟩);simpa using g2,s_,by
        rw[<-k4];simp only[ip,hX,i4,ay,aw,bu,List.length_drop,ce,k4];omega,by rw[hX,aT];exact ax,(fun aA=>(aS aA).elim),k7,(fun h=>(aJ h).elim),k8⟩) (aV.mono aR _ hrefs)
      refine⟨_,_,_,β,ad,yl Y hc W R,.inl rfl,aK,?_,?_⟩
      ·simp only[aD,bN,bR];refine⟨by simp[hR],fun J bh I=>?_⟩;unfold fh at I;rw[hW az]at I;cases I;exact⟨by rw[hX,aT];omega,fun U=>(a5 U).elim,fun _=>by simp⟩
      ·simp only[aG];exact⟨_,hW az,kv _⟩
     ·obtain⟨N,aO,aW⟩:=holds k1 k2 k3;simp only[j8,lc]at aO aW;exact bi _ _ N C aO (aW w.drew _ _ rfl) o_
 ·exact h.elim
end
section
variable{P:dq}{w:ec}{ad ah:Nat->Prop}{β:Bd}{H:aj}
variable{o:Oper}{ρ:dl->AV}{base:Nat}
def ja(bs:ByteArray):List Nat:=bs.data.toList.map (·.toNat)
theorem BQ:∀{a b:List UInt8},a.map (·.toNat)=b.map (·.toNat)->a=b
 |[],[],_=>rfl
 |[],_::_,h=>by simp at h
 |_::_,[],h=>by simp at h
 |x::a,y::b,h=>by
  simp at h;rw[l2.1 h.1,BQ h.2]
theorem bytes_beq(a b:ByteArray):(a.toList==b.toList)=(ja a==ja b):=by
 rw[gE,gE];unfold ja
 by_cases h:a.data.toList=b.data.toList
 ·simp[h]
 ·have d:¬(a.data.toList.map (·.toNat)=b.data.toList.map (·.toNat)):=fun c=>h (BQ c)
  rw[beq_eq_false_iff_ne.2 h,beq_eq_false_iff_ne.2 d]
theorem IQ:∀a b:List UInt8,hw a b=jo (a.map (·.toNat)) (b.map (·.toNat))
 |[],[]=>rfl
 |_::_,[]=>rfl
 |[],_::_=>rfl
 |x::a,y::b=>by
  simp only[hw,h0,jo,IQ a b];congr 1
  ·congr 1
   by_cases h:x=y
   ·simp[h]
   ·have:¬x.toNat=y.toNat:=fun c=>h (l2.1 c);rw[beq_eq_false_iff_ne.2 h,beq_eq_false_iff_ne.2 this]
theorem aGY{c:ee}{T j:dp}{x y:dl}{a b:List Nat}{K:PV->Prop}(g:o.op= .binOp c T x y j)(hx:ρ x= .p (.str a))(u:ρ y= .p (.str b))
 (h:pW c a b K)(al:List (Nat×Obj)):∃v,K v/\bt P o ρ base {v:=.p v,al}:=by
 have key:∀v,K v->(∀(w:ec)(ad:Nat->Prop)(s t:ByteArray),a=ja s->b=ja t->∃r,(hB c s t).run P w=.ok r w/\aF P w ad v r)->∃v,K v/\bt P o ρ base {v:=.p v,al}:=by
  intro v q n;refine⟨v,q,bt.same fun H w ad ah β C B i _=>?_⟩;have e:=(i x (by simp[g,hp])).1;have f:=(i y (by simp[g,hp])).1;rw[hx]at e;rw[u]at f;simp only[aD,NH]at e f;obtain⟨s,e1,e2⟩:=e;obtain⟨t,e3,e4⟩:=f;obtain⟨r,z,A⟩:=n w ad s t e2 e4;refine⟨r,?_,by simpa only[aD]using A,by simp[aG]⟩;simp only[ea,g,e1,e3];refine eE ?_;have l:(eqGuard c T x y (.string s) (.string t)).run P w=.ok () w:=by
   unfold eqGuard
   split<;>simp
  have k:(binOp c T (.string s) (.string t)).run P w=.ok r w:=by
   cases c<;>first|(simp[pW]at h;done)|exact z
  simp[l,k]
 have m:∀s t:ByteArray,a=ja s->b=ja t->hw s.toList t.toList=jo a b/\(s.toList==t.toList)=(a==b):=by
  intro s t hs d;rw[bytes_beq,<-hs,<-d,IQ,gE,gE];exact⟨by rw[hs,d];rfl,rfl⟩
 cases c<;>simp only[pW]at h
 case add=>
  refine key _ h.2 fun w ad s t hs d=>⟨.string (s++t),run_string_add_sum w s t ?_,?_⟩
  ·have e:a.length=s.size:=by rw[hs];simp[ja]
   have f:b.length=t.size:=by rw[d];simp[ja]
   omega
  ·rw[NH];exact⟨_,rfl,by rw[hs,d];simp[ja,ByteArray.data_append]⟩
 case eql|neq|lss|leq|gtr|geq=>
  refine key _ h fun w ad s t hs d=>?_;obtain⟨e1,e2⟩:=m s t hs d;exact⟨_,by simp only[hB,e1,e2];rfl,by simp[aF]⟩
theorem Us{T:dp}(h:rB P T=true):P.underlying T=some .bool:=by
 unfold rB at h
 split at h
 ·assumption
 ·simp at h
theorem IG{T:dp}{a b:dz}{r:Bool}{w:ec}(h:(hv T a b).run P w= .ok r w)(d:(∃x,a= .bool x)\/(∃x,a= .agg x)\/(∃p n c,a= .slice p n c)\/(∃m,a= .map m)\/a= .nilFunc\/(∃f x y,a= .func f x y)\/(∃p,a= .pointer p)\/a= .nilIface):
 (binOp .eql T a b).run P w=.ok (.bool r) w/\(binOp .neq T a b).run P w=.ok (.bool !r) w:=by
 rcases d with⟨x,rfl⟩|⟨x,rfl⟩|⟨p,n,c,rfl⟩|⟨m,rfl⟩|rfl|⟨f,x,y,rfl⟩|⟨p,rfl⟩|rfl
 all_goals (constructor<;>(unfold binOp;simp[h]))
def jG.isAgg:jG->Bool
 | .agg _=>true
 |_=>false
theorem Xq{T:dp}{t:jG}(hk:kindOf P T=t)(a:t≠.bad)(w:ec):(isAgg T).run P w=.ok t.isAgg w:=by
 unfold kindOf at hk;cases hu:P.underlying T with
 |none=>rw[hu]at hk;simp at hk;exact(a hk.symm).elim
 |some d=>
  rw[hu]at hk;simp only[isAgg,hK,dk hu,hH];cases d<;>simp only at hk<;>(split at hk<;>first|(subst hk;rfl)|exact(a hk.symm).elim)
theorem rD{F:dp}{v:PV}{pre c post:List dz}{cs:Array dz}(hk:kindOf P F=aL v)(b:aZ P w ad v c)(e:cs.toList=pre++c++post):
 ∃x,(part F cs pre.length).run P w=.ok x w/\aF P w ad v x:=by
 obtain⟨j,i,f,g⟩:=ya (v:=.p v) (β:=⟨id,id⟩) (H:=[]) (w:=w) (ad:=ad) hk (by simpa only[bn]using b);have d:=(py b).2;have a:=Xq hk d w;cases hs:aL v with
 |bad=>exact(d hs).elim
 |leaf=>
  rw[hs]at a;obtain⟨x,rfl,hx⟩:=(tI hs c).1 b;refine⟨x,?_,hx⟩;have:cs[pre.length]?=some x:=by rw[<-cc,e];simp
  simp[part,a,this,jG.isAgg]
 |agg u=>
  rw[hs]at a;refine⟨.agg c.toArray,?_,(vW hs c).1 b⟩;have h:(sizeOf F).run P w=.ok c.length w:=by simp[sizeOf,typeInfo,f,g]
  have:cs.extract pre.length (pre.length+c.length)=c.toArray:=by
   apply cb;rw[Array.toList_extract,e];simp[List.extract_eq_take_drop]
  simp[part,a,h,this,jG.isAgg]
theorem vV{n:Nat}{b:List Nat}{v:PV}{vs:List PV}{a:List (List dz)}(h:bg P w ad (n::b) (v::vs) a):∃c cs,a=c::cs/\aZ P w ad v c/\c.length=n/\bg P w ad b vs cs:=by
 simpa only[bg]using h
theorem IM{eqF:dp->PV->PV->Option Bool}{d:Nat}(B:∀F a b r,eqF F a b=some r->kindOf P F=aL a->kindOf P F=aL b->∀x y,aF P w ad a x->aF P w ad b y->(ht d F x y).run P w= .ok r w){X Y:Array dz}:
 ∀(fs:List e6)(l:List Nat)(j k:List PV)(r:Bool)(h m:List dz)(o p:List (List dz)),jA P eqF (fs.map (·.type)) j k=some r->fs.all (fun f=>f.name != "_")=true->
 (∀(i:Nat)(f:e6),fs[i]?=some f->f.offset=h.length+(l.take i).sum)->bg P w ad l j o->bg P w ad l k p->h.length=m.length->
 X.toList=h++o.flatten->Y.toList=m++p.flatten->(hz d X Y fs).run P w=.ok r w
 |[],l,j,k,r,h,m,o,p,e,_,_,_,_,_,_,_=>by
  cases j<;>cases k<;>simp[jA]at e;subst e;simp[hz]
 |f::fs,l,j,k,r,h,m,o,p,e,q,v,hx,K,A,t,hY=>by
  cases j with
  |nil=>simp[jA]at e
  |cons a j=>
   cases k with
   |nil=>simp[jA]at e
   |cons b k=>
    cases l with
    |nil=>simp[bg]at hx
    |cons n l=>
     simp only[h0,jA]at e
     split at e
     case isFalse=>simp at e
     rename_i hk
     split at e
     case h_2=>simp at e
     rename_i M N D E;simp at e;subst e;obtain⟨c,cs,rfl,hc,u,J⟩:=vV hx;obtain⟨c',s,rfl,G,H,L⟩:=vV K;simp only[List.all_cons,da,bne_iff_ne]at q;have z:f.offset=h.length:=by simpa using v 0 f s_
     obtain⟨x,C,Q⟩:=rD hk.1 hc (pre:=h) (post:=cs.flatten) (cs:=X) (by rw[t];simp);obtain⟨y,y1,y2⟩:=rD hk.2 G (pre:=m) (post:=s.flatten) (cs:=Y) (by rw[hY];simp);have e1:=B _ _ _ _ D hk.1 hk.2 x y Q y2;rw[<-z]at C;rw[<-A,<-z]at y1;have O:=IM B fs l j k N (h++c) (m++c') cs s E q.2 (by
      intro i g I;have:=v (i+1) g (by simpa using I);rw[this,kb,km,hX,u];omega) J L (by simp[A,u,H]) (by rw[t];simp) (by rw[hY];simp)
     simp only[hz,q.1,ne_eq,not_false_eq_true,if_true,hK,C,y1,e1,hH];cases M with
     |false=>simp
     |true=>simpa using O
theorem GL{eqF:dp->PV->PV->Option Bool}{d:Nat}{e:dp}(u:∀a b r,eqF e a b=some r->∀x y,aF P w ad a x->aF P w ad b y->(ht d e x y).run P w= .ok r w){X Y:Array dz}:
 ∀(n k:Nat)(g h:List PV)(r:Bool)(i j:List dz)(l m:List (List dz)),jA P eqF (hZ n e) g h=some r->
 bg P w ad (hZ n (P.cellsOf e)) g l->bg P w ad (hZ n (P.cellsOf e)) h m->i.length=k*P.cellsOf e->j.length=k*P.cellsOf e->
 X.toList=i++l.flatten->Y.toList=j++m.flatten->(hA d e (P.cellsOf e) X Y (List.range' k n)).run P w=.ok r w
 |0,k,g,h,r,i,j,l,m,f,_,_,_,_,_,_=>by
  cases g<;>cases h<;>simp[jA]at f;subst f;simp[hA]
 |n+1,k,g,h,r,i,j,l,m,f,hx,t,q,s,p,hY=>by
  cases g with
  |nil=>simp[j3,jA]at f
  |cons a g=>
   cases h with
   |nil=>simp[j3,jA]at f
   |cons b h=>
    rw[j3]at f hx t;simp only[jA]at f
    split at f
    case isFalse=>simp at f
    rename_i hk
    split at f
    case h_2=>simp at f
    rename_i G H z A;simp at f;subst f;obtain⟨c,cs,rfl,hc,C,E⟩:=vV hx;obtain⟨c',o,rfl,B,D,F⟩:=vV t;obtain⟨x,v,J⟩:=rD hk.1 hc (pre:=i) (post:=cs.flatten) (cs:=X) (by rw[p];simp);obtain⟨y,y1,y2⟩:=rD hk.2 B (pre:=j) (post:=o.flatten) (cs:=Y) (by rw[hY];simp);have e1:=u _ _ _ z x y J y2;rw[q]at v;rw[s]at y1;have I:=GL u n (k+1) g h H (i++c) (j++c') cs o A E F (by rw[hX,q,C,le]) (by rw[hX,s,D,le]) (by rw[p];simp) (by rw[hY];simp);rw[List.range'_succ];simp only[hA,hK,v,y1,e1,hH];cases G with
    |false=>simp
    |true=>simpa using I
theorem zb:∀(n:Nat)(T:dp)(v v':PV)(r:Bool),iX P n T v v'=some r->∀x y,aF P w ad v x->aF P w ad v' y->∀d,n<=d->(ht d T x y).run P w=.ok r w
 |0,_,_,_,_,h,_,_,_,_,_,_=>by simp[iX]at h
 |n+1,T,v,v',r,h,x,y,hx,g,d,L=>by
  obtain⟨d,rfl⟩:∃e,d=e+1:=⟨d-1,o_⟩
  unfold iX at h
  split at h
  ·rename_i a b c;simp at h;subst h;simp only[aF]at hx g;subst hx;subst g;simp[ht,dk c]
  ·rename_i k0 k a M b c
   split at h
   case isFalse=>simp at h
   rename_i hk;subst hk;simp at h;subst h;simp only[aF]at hx g;subst hx;subst g;exact run_equalIn_int w d T k k0 a b c
  ·rename_i a b c;simp at h;subst h;simp only[aF]at hx g;obtain⟨s,rfl,hs⟩:=hx;obtain⟨t,rfl,H⟩:=g;rw[run_equalIn_string w d T s t c,bytes_beq,hs,H];rfl
  ·rename_i fs u A u' B c
   split at h
   case isFalse=>simp at h
   rename_i hc;obtain⟨hk,rfl,G,E⟩:=hc;simp only[aF]at hx g;obtain⟨l,j,k1,k2,rfl⟩:=hx;obtain⟨D,o,k3,k4,rfl⟩:=g;rw[k1]at k3;cases k3;obtain⟨K,D,s1,s2,q,z,N,I⟩:=vf (P:=P) (T:=T) (u:=u') (n:=fs.size) (by unfold fj;rw[hk,c]);rw[c]at s1;cases s1;rw[k1]at z;cases z;have C:P.fieldsOf T=fs:=by simp[Program.fieldsOf,c]
   rw[run_equalIn_struct w d T _ _ (by rw[C];exact c) G,C];refine IM (eqF:=iX P n) (fun F a b r p _ _ x y hx g=>zb n F a b r p x y hx g d o_) fs.toList l A B r [] [] j o h E ?_ k2 k4 rfl s_ s_;intro i f hf;have hi:i<fs.size:=by
    have:=(hV.1 hf).1;simpa using this
   obtain⟨J,g1,g2,_⟩:=I i hi;rw[cc,g1]at hf;cases hf;simpa using g2
  ·rename_i m e u A u' B c
   split at h
   case isFalse=>simp at h
   rename_i hc;obtain⟨hk,rfl,hi⟩:=hc;simp only[aF]at hx g;obtain⟨l,j,k1,k2,rfl⟩:=hx;obtain⟨D,o,k3,k4,rfl⟩:=g;rw[k1]at k3;cases k3;obtain⟨e',s1,s2,q,z⟩:=tK (P:=P) (T:=T) (u:=u') (n:=m) (by unfold gP;rw[hk,c]);rw[c]at s1;cases s1;rw[k1]at q;cases q;obtain⟨i,hi⟩:=lm.1 hi;rw[run_equalIn_array w d _ _ c hi,List.range_eq_range'];exact GL (eqF:=iX P n) (fun a b r p x y hx g=>zb n e a b r p x y hx g d o_) m 0 A B r [] [] j o h k2 k4 s_ s_ s_ s_
  ·simp at h
end
section
variable{P:dq}{w:ec}{ad ah:Nat->Prop}{β:Bd}{H:aj}
variable{o:Oper}{ρ:dl->AV}{base:Nat}
theorem DV{d:ee}{T C:dp}{x y:dl}{r:Bool}{K:PV->Prop}{l:List (Nat×Obj)}(k:o.op= .binOp d T x y C)
 (D:d=.eql/\K (.bool r)\/d=.neq/\K (.bool !r))
 (I:∀(H:aj)(w:ec)(ad ah:Nat->Prop)(β:Bd)(a b:dz),b7 P w ad β H ah->(∀p∈l,H[p.1]?=some p.2)->aD P w ad β H (ρ x) a->aD P w ad β H (ρ y) b->(hv T a b).run P w=.ok r w/\
  ((∃x,a=.bool x)\/(∃x,a=.agg x)\/(∃p n c,a=.slice p n c)\/(∃m,a=.map m)\/a=.nilFunc\/(∃f x y,a=.func f x y)\/(∃p,a=.pointer p)\/(a=.nilIface/\mE y=true))/\(∀u v,a=.agg u->b=.agg v->P.eqGuardType P.depth T=false)):
 ∃v,K v/\bt P o ρ base {v:=.p v,al:=l}:=by
 have key:∀v,K v->(∀(w:ec)(a b:dz),(hv T a b).run P w= .ok r w->((∃x,a= .bool x)\/(∃x,a= .agg x)\/(∃p n c,a= .slice p n c)\/(∃m,a= .map m)\/a= .nilFunc\/(∃f x y,a= .func f x y)\/(∃p,a= .pointer p)\/a= .nilIface)->
  ∃q,v=.bool q/\(binOp d T a b).run P w=.ok (.bool q) w)->∃v,K v/\bt P o ρ base {v:=.p v,al:=l}:=by
  intro v J hq;refine⟨v,J,bt.same fun H w ad ah β s G t al=>?_⟩;obtain⟨L,z,A⟩:=I H w ad ah β _ _ G al (t x (by simp[k,hp])).1 (t y (by simp[k,hp])).1;obtain⟨q,rfl,F⟩:=hq w _ _ L (by rcases z with h|h|h|h|h|h|h|h<;>simp[h]);refine⟨.bool q,?_,by simp[aD,aF],by simp[aG]⟩;simp only[ea,k];refine eE ?_;have E:(eqGuard d T x y (s x) (s y)).run P w=.ok () w:=by
   rcases z with⟨p,e⟩|⟨p,e⟩|⟨p,n,c,e⟩|⟨m,e⟩|e|⟨f,M,N,e⟩|⟨p,e⟩|⟨e,hc⟩
   all_goals rw[e]at A⊢
   case inr.inl=>
    cases hy:s y with
    |agg B=>
     exact run_eqGuard_agg w d T x y p B (A p B rfl hy)
    |_=>cases d<;>rfl
   case inr.inr.inr.inr.inr.inr.inr=>
    cases y<;>simp[mE]at hc;unfold eqGuard;cases d<;>simp<;>(split<;>simp_all)
   all_goals (cases d<;>rfl)
  simp[E,F]
 rcases D with⟨rfl,j⟩|⟨rfl,j⟩
 ·exact key _ j fun w a b g i=>⟨_,rfl,(IG g i).1⟩
 ·exact key _ j fun w a b g i=>⟨_,rfl,(IG g i).2⟩
theorem yW(T:dp)(a b:dz):∃d,9<=d+1/\hv T a b=ht (d+1) T a b:=⟨9999,o_,rfl⟩
theorem JY{T:dp}{c:Bool}{b:AV}{k:uR}(h:dC P T c b=some k):
 (k=.ptr/\b=.p .dL/\∃e,P.underlying T=some (.pointer e))\/(k=.slice/\b=.p .aO/\∃e,P.underlying T=some (.slice e))\/
 (k=.map/\b=.p .ft/\∃e f,P.underlying T=some (.map e f))\/(k=.func/\b=.p .gU/\∃e f g,P.underlying T=some (.func e f g))\/(k=.iface/\b=.p .gI/\c=true/\∃m,P.underlying T=some (.interface m)):=by
 unfold dC at h
 split at h<;>first
  |(split at h
    ·rename_i a;simp at h;subst h;simp[a]
    ·simp at h)
  |simp at h
theorem aGu{T:dp}{c:Bool}{H0:aj}{a b:AV}{r:Bool}{k:uR}(hk:dC P T c b=some k)(h:cU H0 k a=some r){l s:dz}(al:∀p∈dD H0 a,H[p.1]?=some p.2)(i:aD P w ad β H a l)(C:aD P w ad β H b s):
 (hv T l s).run P w=.ok r w/\((∃x,l=.bool x)\/(∃x,l=.agg x)\/(∃p n c,l=.slice p n c)\/(∃m,l=.map m)\/l=.nilFunc\/(∃f x y,l=.func f x y)\/(∃p,l=.pointer p)\/(l=.nilIface/\c=true))/\(∀u v,l=.agg u->s=.agg v->P.eqGuardType P.depth T=false):=by
 obtain⟨d,_,I⟩:=yW T l s;rw[I];rcases JY hk with⟨rfl,rfl,e,j⟩|⟨rfl,rfl,e,j⟩|⟨rfl,rfl,e,f,j⟩|⟨rfl,rfl,e,f,g,j⟩|⟨rfl,rfl,G,m,j⟩
 all_goals simp only[aD,aF]at C
 all_goals subst C
 ·cases a<;>simp only[cU]at h
  case p v=>
   cases v<;>simp only at h<;>simp at h
   all_goals subst h
   all_goals simp only[aD,aF]at i
   ·subst i;simp[ht,dk j]
   ·obtain⟨_,_,_,_,_,_,rfl⟩:=i;simp[ht,dk j]
  case ptr B path=>
   simp only[aD,bN,bR]at i;obtain⟨_,_,_,_,rfl,_⟩:=i
   split at h
   ·simp at h;subst h;simp[ht,dk j]
   ·simp at h
  all_goals simp at h
 ·cases a<;>simp only[cU]at h
  case p v=>
   cases v
   case seq o=>
    cases o with
    |nil=>simp at h
    |cons e o=>
     simp at h;subst h;simp only[aD,aF]at i;rcases i with⟨J,_⟩|⟨_,_,_,_,_,_,_,_,_,_,_,rfl⟩
     ·cases J
     ·simp[ht,dk j]
   all_goals simp only at h
   all_goals simp at h
   all_goals subst h
   all_goals simp only[aD,aF]at i
   ·subst i;simp[ht,dk j]
   ·obtain⟨_,_,_,_,_,_,_,_,_,_,_,_,rfl⟩:=i;simp[ht,dk j]
  case sl B aC ai off len=>
   simp only[aD,bN,bR]at i;simp only[dD]at al
   split at h
   case h_2=>simp at h
   rename_i A M L o t;rw[t]at al;have z:=al _ (i5.2 rfl)
   split at h
   case isFalse=>simp at h
   rename_i hc;obtain⟨rfl,rfl⟩:=hc;obtain⟨_,E,F⟩:=i.2 A o z
   by_cases q:dc A o
   ·rw[E q];have:r=true:=by simp at h;rw[<-h];simp[q.1,q.2]
    subst this;simp[ht,dk j]
   ·rw[F q];have:r=false:=by
     simp at h;rw[<-h];unfold dc at q
     by_cases D:A.gr=true
     ·have K:o≠[]:=fun h=>q ⟨D,h⟩;simp[K]
     ·simp[D]
    subst this;simp[ht,dk j]
  all_goals simp at h
 ·cases a<;>simp only[cU]at h
  case p v=>
   cases v<;>simp only at h<;>simp at h
   all_goals subst h
   all_goals simp only[aD,aF]at i
   ·subst i;simp[ht,dk j]
   ·obtain⟨_,_,_,_,_,_,rfl⟩:=i;simp[ht,dk j]
  case map B=>
   simp only[aD,bN,bR]at i;simp only[dD]at al
   split at h
   case h_2=>simp at h
   rename_i fz o t;rw[t]at al;have z:=al _ (i5.2 rfl);rw[i.2.1 ⟨_,z,trivial⟩];simp at h;subst h;simp[ht,dk j]
  all_goals simp at h
 ·cases a<;>simp only[cU]at h
  case p v=>
   cases v<;>simp only at h<;>simp at h
   all_goals subst h
   all_goals simp only[aD,aF]at i
   ·obtain⟨_,_,_,_,rfl⟩:=i;simp[ht,dk j]
   ·subst i;simp[ht,dk j]
  case func f first iF=>
   simp only[aD]at i;obtain⟨_,_,_,_,rfl⟩:=i;simp at h;subst h;simp[ht,dk j]
  all_goals simp at h
 ·cases a<;>simp only[cU]at h
  case p v=>
   cases v<;>simp only at h<;>simp at h
   all_goals subst h
   all_goals simp only[aD,aF]at i
   subst i;simp[ht,dk j,G]
  all_goals simp at h
theorem aGN{i:ee}{T s:dp}{x y:dl}{K:PV->Prop}{H0:aj}(j:o.op= .binOp i T x y s)(h:kT P i T (mE y) H0 (ρ x) (ρ y) K):
 ∃v,K v/\bt P o ρ base {v:=.p v,al:=dD H0 (ρ x)}:=by
 unfold kT at h
 split at h
 ·rename_i k a C b hx g;exact aGS j hx g h.1 h.2 _
 ·rename_i a b hx g;exact aGY j hx g h _
 ·rename_i a b hx g;obtain⟨z,h⟩:=h;have m:=Us z;refine DV (r:=a==b) j ?_ ?_
  ·split at h
   ·exact .inl ⟨rfl,h⟩
   ·exact .inr ⟨rfl,h⟩
   ·exact h.elim
  ·intro H w ad ah β n q e al f c;rw[hx]at f;rw[g]at c;simp only[aD,aF]at f c;subst f;subst c;obtain⟨d,_,l⟩:=yW T (.bool a) (.bool b);rw[l];exact⟨by simp[ht,dk m],.inl ⟨_,rfl⟩,fun u v m _=>by cases m⟩
 ·rename_i u fs u' t hx g;obtain⟨B,h⟩:=h;obtain⟨r,e,c⟩:∃r,iX P 9 T (.st u fs) (.st u' t)=some r/\(i=.eql/\K (.bool r)\/i=.neq/\K (.bool !r)):=by
   split at h
   ·rename_i r e;exact⟨r,e,.inl ⟨rfl,h⟩⟩
   ·rename_i r e;exact⟨r,e,.inr ⟨rfl,h⟩⟩
   ·exact h.elim
  refine DV (r:=r) j c ?_;intro H w ad ah β n q _ al f c;rw[hx]at f;rw[g]at c;simp only[aD]at f c;refine⟨?_,?_,fun u v _ _=>by simpa[ux]using B⟩
  ·obtain⟨d,A,l⟩:=yW T n q;rw[l];exact zb 9 T _ _ r e _ _ f c (d+1) A
  ·simp only[aF]at f;obtain⟨_,_,_,_,rfl⟩:=f;exact .inr (.inl ⟨_,rfl⟩)
 ·rename_i hx g
  split at h
  case h_2=>exact h.elim
  rename_i k hk;obtain⟨r,e,c⟩:∃r,cU H0 k (ρ x)=some r/\(i=.eql/\K (.bool r)\/i=.neq/\K (.bool !r)):=by
   split at h
   ·rename_i r e;exact⟨r,e,.inl ⟨rfl,h⟩⟩
   ·rename_i r e;exact⟨r,e,.inr ⟨rfl,h⟩⟩
   ·exact h.elim
  exact DV (r:=r) j c fun H w ad ah β n q _ al f c=>aGu hk e al f c
end
section
variable{P:dq}{w:ec}{ad ah:Nat->Prop}{β:Bd}{H:aj}
variable{o:Oper}{ρ:dl->AV}{base:Nat}
theorem nW{c:dl->dz}:∀(l:List dl),(∀x∈l,aD P w ad β H (ρ x) (c x)/\aG (aI H) (ρ x))->bw P w ad β H (l.map ρ) (l.map c)/\aV (aI H) (l.map ρ)
 |[],_=>by simp[bw,aV]
 |x::l,h=>by
  have a:=h x s_;have b:=nW l (fun y d=>h y (by simp[d]));simp only[h0,bw,aV];exact⟨⟨_,_,rfl,a.1,b.1⟩,a.2,b.2⟩
theorem yP{H0:aj}:∀(l:List AV){j:List PV}{al aK:List (Nat×Obj)}{H:aj}{ad:Nat->Prop}{vs:List dz},fM H0 l=some (j,al,aK)->b7 P w ad β H ah->bw P w ad β H l vs->aV (aI H) l->
 (∀p∈al,∃f fz t,p.2=.box fz t/\H[p.1]?=some (.box f t))->∃aH,bZ P ah ad w β H aH w β (bc H aK)/\br P w aH j vs/\∀p∈aK,p.1<H0.length/\p.2≠.hole
 |[],j,al,aK,H,ad,vs,h,i,e,_,_=>by
  simp[fM]at h;obtain⟨rfl,rfl,rfl⟩:=h;simp only[bw]at e;exact⟨ad,bZ.refl i,by simpa[br]using e,s_⟩
 |a::l,j,al,aK,H,ad,vs,h,i,e,d,m=>by
  simp only[bw]at e;obtain⟨y,x,rfl,n,u⟩:=e;simp only[aV]at d;cases a with
  |p v=>
   simp only[fM]at h
   split at h
   case h_2=>simp at h
   rename_i G B E k;simp at h;obtain⟨rfl,rfl,rfl⟩:=h;obtain⟨aH,q1,o,q⟩:=yP l k i u d.2 m;simp only[aD]at n;exact⟨aH,q1,by simp only[br];exact⟨y,x,rfl,aF.mono q1.bS (fun _ _=>rfl) _ _ n,o⟩,q⟩
  |ptr b path=>
   cases path with
   |cons _ _=>simp[fM]at h
   |nil=>
    simp only[fM]at h
    split at h
    case h_2=>simp at h
    rename_i fz t G B E C k;simp at h;obtain⟨rfl,rfl,rfl⟩:=h;obtain⟨f,J,K,e1,e2⟩:=m (b,.box fz (.p t)) s_;cases e1;have D:lx H (.ptr b [])=some (.cr t,H.set b (.box true (.p t))):=by
     simp only at e2;simp[lx,e2,lA]
    obtain⟨I,g,F⟩:=KE D i n d.1;have A:b<H.length:=(hV.1 e2).1;obtain⟨z,q1,o,q⟩:=yP l k g.rel (bw.mono g.bS (fun _ _=>rfl) g.step _ _ d.2 u) (aV.mono g.fS _ d.2) (by
     intro p c;obtain⟨f2,r,t2,g1,g2⟩:=m p (by simp[c])
     by_cases s:b=p.1
     ·rw[<-s]at g2⊢;simp only at e2;rw[e2]at g2;cases g2;exact⟨true,r,_,g1,by rw[hW A]⟩
     ·exact⟨f2,r,t2,g1,by rw[h7 s];exact g2⟩)
    refine⟨z,by simpa only[bc]using g.trans q1,?_,?_⟩
    ·simp only[br];exact⟨y,x,rfl,aF.mono q1.bS (fun _ _=>rfl) _ _ F,o⟩
    ·intro p c;rcases h3.1 c with rfl|c
     ·exact⟨(hV.1 C).1,s_⟩
     ·exact q p c
  |_=>simp[fM]at h
theorem Vu{f:eb}{fi ca:Array dl}(E:o.op= .makeFunc (.func f) fi ca):
 (∀a b,eQ (fi.toList.map ρ)=some a->eQ (ca.toList.map ρ)=some b->bt P o ρ base {v:=.p (.func f a b)})/\
 bt P o ρ base {v:=.func f (fi.toList.map ρ) (ca.toList.map ρ)}/\
 (∀(H0:aj) a b al aK,fM H0 (fi.toList.map ρ)=some (a,[],[])->fM H0 (ca.toList.map ρ)=some (b,al,aK)->bt P o ρ base {v:=.p (.func f a b),al,aK}/\(∀p∈al,H0[p.1]?=some p.2)/\(∀p∈aK,p.1<H0.length/\p.2≠.hole)):=by
 have g:∀x,x∈fi.toList\/x∈ca.toList->x∈o.op.operands:=by
  intro x hx;rw[E];simp only[hp,Array.mem_append];simpa using hx
 have u:∀(c:dl->dz)(w:ec),(ea c o).run P w=.ok (.value (.func (.func f) (fi.toList.map c).toArray (ca.toList.map c).toArray)) w:=by
  intro c w;simp only[ea,E];refine eE ?_;have j:(fi.toList.map c).toArray=fi.map c:=by apply cb;simp
  have k:(ca.toList.map c).toArray=ca.map c:=by apply cb;simp
  rw[j,k];simp[Instr.makeFunc]
 refine⟨?_,?_,?_⟩
 ·intro a b s m;refine bt.same fun H w ad ah β c z e _=>⟨_,u c w,?_,by simp[aG]⟩
  obtain⟨j,_⟩:=nW fi.toList (fun x hx=>e x (g x (.inl hx)));obtain⟨k,_⟩:=nW ca.toList (fun x hx=>e x (g x (.inr hx)));rw[mh s]at j;rw[mh m]at k;simp only[aD,aF];exact⟨_,_,jN.1 j,jN.1 k,rfl⟩
 ·refine bt.same fun H w ad ah β c z e _=>⟨_,u c w,?_,?_⟩
  ·simp only[aD];exact⟨_,_,(nW fi.toList (fun x hx=>e x (g x (.inl hx)))).1,(nW ca.toList (fun x hx=>e x (g x (.inr hx)))).1,rfl⟩
  ·simp only[aG];exact⟨(nW fi.toList (fun x hx=>e x (g x (.inl hx)))).2,(nW ca.toList (fun x hx=>e x (g x (.inr hx)))).2⟩
 ·intro H0 a b al aK s m;have D:∀p∈al,H0[p.1]?=some p.2/\∃fz t,p.2=.box fz t:=by
   have:∀(l:List AV)(b:List PV)(al aK:List (Nat×Obj)),fM H0 l=some (b,al,aK)->∀p∈al,H0[p.1]?=some p.2/\∃fz t,p.2=.box fz t:=by
    intro l
    induction l with
    |nil=>intro b al aK h;simp[fM]at h;obtain⟨rfl,rfl,rfl⟩:=h;simp
    |cons x l q=>
     intro b al aK h;cases x with
     |p v=>
      simp only[fM]at h
      split at h
      case h_2=>simp at h
      rename_i B n A i;simp at h;obtain⟨rfl,rfl,rfl⟩:=h;exact q _ _ _ i
     |ptr J path=>
      cases path with
      |cons _ _=>simp[fM]at h
      |nil=>
       simp only[fM]at h
       split at h
       case h_2=>simp at h
       rename_i fz t B n A y i;simp at h;obtain⟨rfl,rfl,rfl⟩:=h;intro p d;rcases h3.1 d with rfl|d
       ·exact⟨y,_,_,rfl⟩
       ·exact q _ _ _ i p d
     |_=>simp[fM]at h
   exact this _ _ _ _ m
  have K:∀p∈aK,p.1<H0.length/\p.2≠.hole:=by
   have:∀(l:List AV)(b:List PV)(al aK:List (Nat×Obj)),fM H0 l=some (b,al,aK)->∀p∈aK,p.1<H0.length/\p.2≠.hole:=by
    intro l
    induction l with
    |nil=>intro b al aK h;simp[fM]at h;obtain⟨rfl,rfl,rfl⟩:=h;simp
    |cons x l q=>
     intro b al aK h;cases x with
     |p v=>
      simp only[fM]at h
      split at h
      case h_2=>simp at h
      rename_i B n A i;simp at h;obtain⟨rfl,rfl,rfl⟩:=h;exact q _ _ _ i
     |ptr J path=>
      cases path with
      |cons _ _=>simp[fM]at h
      |nil=>
       simp only[fM]at h
       split at h
       case h_2=>simp at h
       rename_i fz t B n A y i;simp at h;obtain⟨rfl,rfl,rfl⟩:=h;intro p d;rcases h3.1 d with rfl|d
       ·exact⟨(hV.1 y).1,s_⟩
       ·exact q _ _ _ i p d
     |_=>simp[fM]at h
   exact this _ _ _ _ m
  refine⟨?_,fun p d=>(D p d).1,K⟩;intro H w ad ah β c z e n _;obtain⟨j,N⟩:=nW fi.toList (fun x hx=>e x (g x (.inl hx)));obtain⟨k,G⟩:=nW ca.toList (fun x hx=>e x (g x (.inr hx)));obtain⟨O,r,L,_⟩:=yP _ s z j N s_;simp only[bc]at r;obtain⟨I,q1,M,_⟩:=yP _ m r.rel (bw.mono r.bS (fun _ _=>rfl) r.step _ _ G k) G (by
   intro p d;obtain⟨_,fz,t,F⟩:=D p d;have C:=n p d;rw[F]at C;exact⟨fz,fz,t,F,C⟩)
  simp only[newAt,h2];refine⟨_,_,w,β,I,u c w,.inl rfl,r.trans q1,?_,by simp[aG]⟩;simp only[aD,aF];exact⟨_,_,br.mono q1.bS (fun _ _=>rfl) _ _ L,M,rfl⟩
theorem BX{x:dl}(d:o.op=.nilCheck x)(h:(∃b p,ρ x=.ptr b p)\/(∃b v e i p,ρ x=.cd b v e i p)\/∃t,ρ x=.p (.cr t)):bt P o ρ base {v:=ρ x}:=by
 refine bt.same fun H w ad ah β f l k al=>?_;have c:=k x (by simp[d,hp]);refine⟨f x,?_,c⟩;have j:∃a,f x=.pointer (some a):=by
  rcases h with⟨b,p,hx⟩|⟨b,v,e,i,p,hx⟩|⟨t,hx⟩
  ·have c:=c.1;rw[hx]at c;simp only[aD,bN,bR]at c;obtain⟨_,_,_,_,h,_⟩:=c;exact⟨_,h⟩
  ·have c:=c.1;rw[hx]at c;simp only[aD,bN,bR]at c;obtain⟨_,_,_,_,h,_⟩:=c;exact⟨_,h⟩
  ·have c:=c.1;rw[hx]at c;simp only[aD,aF]at c;obtain⟨_,_,_,_,_,_,h⟩:=c;exact⟨_,h⟩
 obtain⟨a,g⟩:=j;simp[ea,d,g]
end
section
variable{P:dq}{w:ec}{ad ah:Nat->Prop}{β:Bd}{H:aj}
variable{o:Oper}{ρ:dl->AV}{base:Nat}
open Go.MapKept
def kS:PV->Prop
 | .st _ _=>False
 |_=>True
theorem DI{T:dp}{key:PV}(h:kS key)(k:PV):oR P T key k=jT key k:=by
 cases key<;>first
  |exact h.elim
  |rfl
theorem UB{T:dp}{key:PV}(h:kS key)(a:List (PV×PV)):mq P T a key=fN P T a key:=by
 cases key<;>first
  |exact h.elim
  |rfl
theorem yt{T:dp}{key:PV}{b:dz}(h:eZ P T key=true)(c:kS key)(a:aF P w ad key b):∃d,P.underlying T=some d/\IsKey d b:=by
 unfold eZ at h
 split at h
 ·split at h
  ·rename_i e;simp at h;subst h;simp only[aF]at a;subst a;exact⟨_,e,by simp[IsKey]⟩
  ·simp at h
 ·simp only[aF]at a;obtain⟨bs,rfl,_⟩:=a;exact⟨_,yj h,by simp[IsKey]⟩
 ·exact c.elim
 ·simp at h
theorem zZ{T:dp}{d:fd}(j:P.underlying T=some d){key g:PV}{i v':dz}{r:Bool}(h:eZ P T key=true)(p:kS key)(c:jT key g=some r)(e:aF P w ad key i)(f:aF P w ad g v'):
 hl d i v'=some r/\(r=true->i=v'):=by
 unfold eZ at h
 split at h
 ·split at h
  ·rename_i k;simp at h;subst h;rw[j]at k;cases k;cases g<;>simp only[jT]at c<;>try (simp at c;done)
   split at c
   ·rename_i hk;subst hk;simp at c;subst c;simp only[aF]at e f;subst e;subst f;simp[hl]
   ·simp at c
  ·simp at h
 ·rename_i hs;have:=yj h;rw[j]at this;cases this;cases g<;>simp only[jT]at c<;>try (simp at c;done)
  simp at c;subst c;simp only[aF]at e f;obtain⟨a,rfl,e1⟩:=e;obtain⟨b,rfl,e2⟩:=f;subst e1;subst e2;have n:(j9 (fun x:UInt8=>x.toNat) a.data.toList=j9 (fun x:UInt8=>x.toNat) b.data.toList)↔a=b:=by
   constructor
   ·intro h;have:=BQ h;apply ByteArray.ext;apply cb;exact this
   ·intro h;rw[h]
  by_cases hc:a=b
  ·subst hc;simp[hl,ho]
  ·have l:¬(j9 (fun x:UInt8=>x.toNat) a.data.toList=j9 (fun x:UInt8=>x.toNat) b.data.toList):=fun h=>hc (n.1 h);have m:(a==b)=false:=by
    cases o:(a==b)with
    |false=>rfl
    |true=>exact(hc ((ho a b).1 o)).elim
   simp[hl,l,m]
 ·exact p.elim
 ·simp at h
theorem C8{T:dp}{d:fd}(o:P.underlying T=some d){key:PV}{g:dz}(hk:eZ P T key=true)(m:kS key)(l:aF P w ad key g):∀(b:List (PV×PV))(a:List ed)(i:Nat)(r:Option PV),cF P w ad b a->fN P T b key=some r->
 (r=none/\g7 d g a i=some none)\/∃v j e,r=some v/\g7 d g a i=some (some (i+j,e.val))/\a[j]?=some e/\aF P w ad v e.val/\e.key=g/\
  (∀(x:PV)(k:dz),aF P w ad x k->cF P w ad (gh b key x) (a.modify j fun e=>{e with key:=g,val:=k}))
 |[],a,i,r,f,h=>by
  simp only[cF]at f;simp[fN]at h;subst f;subst h;exact .inl ⟨rfl,rfl⟩
 |(s,v')::b,a,i,r,f,h=>by
  simp only[cF]at f;obtain⟨e,rest,rfl,n,p,q⟩:=f;simp only[fN,DI m]at h
  split at h
  ·rename_i c;simp at h;subst h;obtain⟨g1,g2⟩:=zZ o hk m c l n;refine .inr ⟨v',0,e,rfl,by simp[g7,g1],rfl,p,(g2 rfl).symm,fun x k hx=>?_⟩;simp only[gh,c,if_true];simp only[cF];exact⟨_,rest,rfl,l,hx,q⟩
  ·rename_i c;obtain⟨g1,g2⟩:=zZ o hk m c l n;rcases C8 o hk m l b rest (i+1) r q h with⟨rfl,f1⟩|⟨v,j,e',rfl,f1,f2,f3,f4,f5⟩
   ·exact .inl ⟨rfl,by simp[g7,g1,f1]⟩
   ·refine .inr ⟨v,j+1,e',rfl,by simp[g7,g1,f1];omega,by simpa using f2,f3,f4,fun x k hx=>?_⟩;simp only[gh,c];rw[if_neg s_];simp only[cF];exact⟨e,_,by simp[List.modify_succ_cons],n,p,f5 x k hx⟩
  ·simp at h
theorem Jk{X:Array dz}{y:dp->PV->PV->Option Bool}(e:Bool)(n:Nat):
 ∀(fs:List e6)(l:List Nat)(b:List PV)(r:Bool)(d:List dz)(o:List (List dz)),jA P y (fs.map (·.type)) b b=some r->(∀f∈fs,f.name≠ "_" /\tR P f.type=true)->
 (∀(i:Nat)(f:e6),fs[i]?=some f->f.offset=d.length+(l.take i).sum)->bg P w ad l b o->
 X.toList=d++o.flatten->(forIn fs lz (fun f _=>if f.name≠ "_" then(do
  let x<-part f.type X f.offset
  ha e (n+1) f.type x
  pure (ForInStep.yield lz))else pure (ForInStep.yield lz):e6->PUnit->Sem (ForInStep PUnit))).run P w=.ok lz w
 |[],l,b,r,d,o,_,_,_,_,_=>by simp
 |f::fs,l,b,r,d,o,h,s,t,hx,q=>by
  cases b with
  |nil=>simp[jA]at h
  |cons a b=>
   cases l with
   |nil=>simp[bg]at hx
   |cons m l=>
    simp only[h0,jA]at h
    split at h
    case isFalse=>simp at h
    rename_i hk
    split at h
    case h_2=>simp at h
    rename_i I F H z;obtain⟨c,cs,rfl,hc,A,E⟩:=vV hx;obtain⟨C,p⟩:=s f s_;have D:f.offset=d.length:=by simpa using t 0 f s_
    obtain⟨x,u,J⟩:=rD hk.1 hc (pre:=d) (post:=cs.flatten) (cs:=X) (by rw[q];simp);rw[<-D]at u;have v:(ha e (n+1) f.type x).run P w=.ok () w:=by
     unfold tR at p;unfold ha
     split at p
     ·rename_i k j;simp[dk j]
     ·rename_i j;simp[dk j]
     ·rename_i j;simp[dk j]
     ·cases p
    have G:=Jk e n fs l b F (d++c) cs z (fun f hf=>s f (by simp[hf])) (by
     intro i g B;have:=t (i+1) g (by simpa using B);rw[this,kb,km,hX,A];omega) E (by rw[q];simp)
    rw[List.forIn_cons];simp only[C,ne_eq,not_false_eq_true,if_true,hK,u,v,hH,hL];exact G
theorem T5{T:dp}{bY:Array e6}{u:Nat}{fs:List PV}{g:dz}(b:P.underlying T=some (.struct bY))(j:bY.toList.all (fun f=>f.name != "_" &&tR P f.type)=true)(a:(iX P 9 T (.st u fs) (.st u fs)).isSome=true)(d:aF P w ad (.st u fs) g)(e:Bool):
 (ha e 10000 T g).run P w=.ok () w:=by
 obtain⟨r,a⟩:=lm.1 a;unfold iX at a;simp only[b]at a
 split at a
 case isFalse=>simp at a
 rename_i hc;obtain⟨hk,-,-,-⟩:=hc;simp only[aF]at d;obtain⟨l,c,k1,k2,rfl⟩:=d;obtain⟨o,p,s1,s2,q,h,s,k⟩:=vf (P:=P) (T:=T) (u:=u) (n:=bY.size) (by unfold fj;rw[hk,b]);rw[b]at s1;cases s1;rw[k1]at h;cases h;have key:=Jk (w:=w) (ad:=ad) (X:=c.flatten.toArray) e 9998 bY.toList l fs r [] c a (fun f hf=>by
  have:=ik.1 j f hf;simpa using this) (by
   intro i f hf;have hi:i<bY.size:=by
    have:=(hV.1 hf).1;simpa using this
   obtain⟨m,g1,g2,_⟩:=k i hi;rw[cc,g1]at hf;cases hf;simpa using g2) k2 s_
 unfold ha;simp only[hK,dk b,hH];rw[<-Array.forIn_toList];rw[key];simp
theorem CG{T:dp}{u:Nat}{fs:List PV}{g:dz}(p:aF P w ad (.st u fs) g):∀(k:List (PV×PV))(f:List ed)(i:Nat)(r:Option PV),cF P w ad k f->fN P T k (.st u fs)=some r->
 (r=none/\(g9 T g f i).run P w=.ok none w/\∀x n born,aF P w ad x n->cF P w ad (gh k (.st u fs) x) (f++[{key:=g,val:=n,born}]))\/∃(v:PV)(j:Nat)(e:ed),r=some v/\(g9 T g f i).run P w=.ok (some (i+j,e.val)) w/\aF P w ad v e.val
 |[],f,i,r,m,h=>by
  simp only[cF]at m;simp[fN]at h;subst m;subst h;refine .inl ⟨rfl,by simp[g9],fun x n born hx=>?_⟩;simp only[gh,cF];exact⟨_,[],rfl,p,hx,rfl⟩
 |(y,v')::k,f,i,r,m,h=>by
  simp only[cF]at m;obtain⟨e,rest,rfl,s,t,z⟩:=m;simp only[fN]at h;have q:∀b,oR P T (.st u fs) y=some b->(hv T g e.key).run P w=.ok b w/\jT (.st u fs) y=some b:=by
   intro b l;simp only[oR]at l
   split at l
   ·rename_i a c A hc;cases a<;>cases c<;>simp at l<;>subst l<;>
    ·obtain⟨d,B,hq⟩:=yW T g e.key;rw[hq];exact⟨zb 9 T _ _ _ A _ _ p s _ B,hc⟩
   ·simp at l
  split at h
  ·rename_i o;simp at h;subst h;obtain⟨g1,g2⟩:=q _ o;exact .inr ⟨v',0,e,rfl,by simp[g9,g1],t⟩
  ·rename_i o;obtain⟨g1,g2⟩:=q _ o;rcases CG p k rest (i+1) r z h with⟨rfl,f1,f2⟩|⟨v,j,e',rfl,f1,f3⟩
   ·refine .inl ⟨rfl,by simp[g9,g1,f1],fun x n born hx=>?_⟩;simp only[gh,g2];rw[if_neg s_];simp only[cF];exact⟨e,_,rfl,s,t,f2 x n born hx⟩
   ·refine .inr ⟨v,j+1,e',rfl,?_,f3⟩;simp[g9,g1,f1];omega
  ·simp at h
theorem C9{T:dp}{bY:Array e6}(c:P.underlying T=some (.struct bY)){b:dz}{a:List ed}{f:Option (Nat×dz)}(h:(g9 T b a 0).run P w=.ok f w):(hd T b a).run P w=.ok f w:=by
 unfold hd;simp only[hK,dk c,hH];cases a with
 |nil=>
  simp only[g7];simpa[g9]using h
 |cons e es=>
  have:g7 (.struct bY) b (e::es) 0=none:=by simp[g7,hl]
  rw[this];exact h
theorem Ch{T:dp}{key:PV}(h:eZ P T key=true)(a:¬kS key):∃u fs bY,key= .st u fs/\P.underlying T=some (.struct bY)/\bY.toList.all (fun f=>f.name != "_" &&tR P f.type)=true/\(iX P 9 T (.st u fs) (.st u fs)).isSome=true:=by
 cases key<;>first
  |exact(a trivial).elim
  |skip
 rename_i u fs;simp only[eZ]at h
 split at h
 ·rename_i bY b;rw[da]at h;exact⟨u,fs,bY,rfl,b,h.1,h.2⟩
 ·cases h
theorem Mh{T:dp}{key:PV}{g:dz}(hk:eZ P T key=true)(f:aF P w ad key g){b:List (PV×PV)}{a:List ed}{r:Option PV}(l:cF P w ad b a)(h:fN P T b key=some r):
 (∀e,(ha e 10000 T g).run P w=.ok () w)/\
 ((r=none/\(hd T g a).run P w=.ok none w)\/∃(v:PV)(j:Nat)(e:ed),r=some v/\(hd T g a).run P w=.ok (some (j,e.val)) w/\aF P w ad v e.val):=by
 by_cases i:kS key
 ·obtain⟨d,c,o⟩:=yt hk i f;refine⟨fun e=>run_checkKey c o _ 9999,?_⟩;rcases C8 c hk i f b a 0 r l h with⟨rfl,f1⟩|⟨v,j,e,rfl,f1,f2,f3,f4,_⟩
  ·exact .inl ⟨rfl,run_findKey c f1⟩
  ·exact .inr ⟨v,0+j,e,rfl,run_findKey c f1,f3⟩
 ·obtain⟨u,fs,bY,rfl,k,m,n⟩:=Ch hk i;refine⟨fun e=>T5 k m n f e,?_⟩;rcases CG f b a 0 r l h with⟨rfl,f1,_⟩|⟨v,j,e,rfl,f1,f3⟩
  ·exact .inl ⟨rfl,C9 k f1⟩
  ·exact .inr ⟨v,0+j,e,rfl,C9 k f1,f3⟩
theorem Jd{T:dp}{key x:PV}{g i:dz}(d:aF P w ad key g)(hx:aF P w ad x i)(born:Nat):∀(a:List (PV×PV))(c:List ed),kS key->cF P w ad a c->fN P T a key=some none->cF P w ad (gh a key x) (c++[{key:=g,val:=i,born}])
 |[],c,_,b,_=>by
  simp only[cF]at b;subst b;simp only[gh,cF];exact⟨_,[],rfl,d,hx,rfl⟩
 |(n,v')::a,c,f,b,h=>by
  simp only[cF]at b;obtain⟨e,rest,rfl,j,k,l⟩:=b;simp only[fN,DI f]at h
  split at h
  ·simp at h
  ·rename_i m;simp only[gh,m];rw[if_neg s_];simp only[cF];exact⟨e,_,rfl,j,k,Jd (T:=T) d hx born a rest f l h⟩
  ·simp at h
def ug(ok:Bool)(z:PV):Option PV->PV
 |some v=>if ok then .aE [v,.bool true]else v
 |none=>if ok then .aE [z,.bool false]else z
theorem VW{T:dp}{c E:dp}{x i:dl}{ok:Bool}{key z:PV}{r:Option PV}{k:List (PV×PV)}(C:o.op= .lookup T x i ok)(g:jw P T=some (c,E))(F:cB P E=some z)(hk:eZ P c key=true)(B:fN P c k key=some r)
 {ρc:dl->dz}(A:aF P w ad key (ρc i))(hx:(ρc x=.map none/\k=[])\/∃b a d,ρc x=.map (some b)/\w.heap[b]?=some (.map a d)/\cF P w ad k a.toList):
 ∃p,(ea ρc o).run P w=.ok (.value p) w/\aF P w ad (ug ok z r) p:=by
 have m:P.underlying T=some (.map c E):=by
  unfold jw at g
  split at g
  ·rename_i D;simp at g;rw[D,g.1,g.2]
  ·simp at g
 obtain⟨t,z1,z2⟩:=MD F;obtain⟨a,s,n⟩:∃a:Array ed,((ρc x=.map none/\a=#[])\/∃b d,ρc x=.map (some b)/\w.heap[b]?=some (.map a d))/\cF P w ad k a.toList:=by
  rcases hx with⟨hx,rfl⟩|⟨b,a,d,hx,h,n⟩
  ·exact⟨#[],.inl ⟨hx,rfl⟩,by simp[cF]⟩
  ·exact⟨a,.inr ⟨b,d,hx,h⟩,n⟩
 obtain⟨l,u⟩:=Mh hk A n B
 have q:∀(f:Option (Nat×dz))(v:dz)(b:Bool),(hd c (ρc i) a.toList).run P w= .ok f w->(f=none/\v=t/\b=false\/∃j,f=some (j,v)/\b=true)->
  (ea ρc o).run P w=.ok (.value (if ok then .tuple #[v,.bool b]else v)) w:=by
  intro f v b hf y;simp only[ea,C];refine eE ?_;rcases y with⟨rfl,rfl,rfl⟩|⟨j,rfl,rfl⟩
  ·rcases s with⟨hx,rfl⟩|⟨b,d,hx,h⟩
   ·have hf:(hd c (ρc i) []).run P w=.ok none w:=hf;cases ok<;>simp[hh,dk m,hx,l,hf,z1]
   ·cases ok<;>simp[hh,dk m,hx,hn h,l,hf,z1]
  ·rcases s with⟨hx,rfl⟩|⟨b,d,hx,h⟩
   ·have hf:(hd c (ρc i) []).run P w=.ok (some (j,v)) w:=hf;cases ok<;>simp[hh,dk m,hx,l,hf]
   ·cases ok<;>simp[hh,dk m,hx,hn h,l,hf]
 rcases u with⟨rfl,f1⟩|⟨v,j,e,rfl,f1,f3⟩
 ·refine⟨_,q none t false f1 (.inl ⟨rfl,rfl,rfl⟩),?_⟩;cases ok with
  |true=>simp only[ug,if_true,aF,br];exact⟨_,⟨_,_,rfl,z2 w ad,_,_,rfl,rfl,rfl⟩,rfl⟩
  |false=>simpa[ug]using z2 w ad
 ·refine⟨_,q _ e.val true f1 (.inr ⟨_,rfl,rfl⟩),?_⟩;cases ok with
  |true=>simp only[ug,if_true,aF,br];exact⟨_,⟨_,_,rfl,f3,_,_,rfl,rfl,rfl⟩,rfl⟩
  |false=>simpa[ug]using f3
theorem vt{T:dp}{c E:dp}{x g:dl}{ok:Bool}{key z:PV}{r:Option PV}{es:List (PV×PV)}{al:List (Nat×Obj)}(f:o.op= .lookup T x g ok)(n:jw P T=some (c,E))(u:cB P E=some z)(hi:ρ g= .p key)(hk:eZ P c key=true)(q:fN P c es key=some r)
 (hx:(ρ x=.p .ft/\es=[])\/ρ x=.p (.eg es)\/∃b fz,ρ x=.map b/\(b,.map fz es)∈al):
 bt P o ρ base {v:=.p (ug ok z r),al}:=by
 refine bt.same fun H w ad ah β y t i al=>?_;have a:=(i x (by simp[f,hp])).1;have e:=(i g (by simp[f,hp])).1;rw[hi]at e;simp only[aD]at e;obtain⟨j,c1,c2⟩:=VW f n u hk q (ρc:=y) (w:=w) (ad:=ad) e (by
  rcases hx with⟨hx,rfl⟩|hx|⟨b,fz,hx,s⟩
  ·rw[hx]at a;simp only[aD,aF]at a;exact .inl ⟨a,rfl⟩
  ·rw[hx]at a;simp only[aD,aF]at a;obtain⟨b,d,clock,_,k,l,m⟩:=a;exact .inr ⟨b,d,clock,m,k,l⟩
  ·rw[hx]at a;simp only[aD,bN,bR]at a;have h:=al _ s;obtain⟨d,clock,k1,k2,_⟩:=t.cK b _ h;exact .inr ⟨_,d,clock,a.2.1 ⟨_,h,trivial⟩,k1,k2⟩)
 exact⟨j,c1,by simpa only[aD]using c2,by simp[aG]⟩
theorem VP{T:dp}(e:o.op=.makeMap T none):bt P o ρ base {v:=.map base,aX:=[.map false []]}:=by
 intro H w ad ah β i b j _ d;have a:H[base]?=some .hole:=by simpa using d 0 s_
 have g:(ea i o).run P w=.ok (.value (.map (some w.heap.size))) {w with heap:=w.heap.push (.map #[] 0)}:=by
  simp only[ea,e];exact u9 (by simp[Instr.makeMap])
 have f:=tE (cap:=0) b a (ob:=.map #[] 0) (o':=.map false [])
  ⟨#[],0,by simp[Bd.at],by simp[cF],by
   simp only[cE,Bd.at,if_true,dg,if_false];exact⟨fun h=>kw _ (b.bS _ h),fun h=>kw _ (b.eM _ h)⟩⟩ trivial
 refine⟨_,_,_,_,ad,g,.inl rfl,f,?_,?_⟩
 ·simp only[aD,bN,bR,l6];exact⟨rfl,fun _=>by simp[Bd.at],fun⟨L,c⟩=>by rw[hW (hV.1 a).1]at c;cases c⟩
 ·simp only[aG,l6];exact⟨_,hW (hV.1 a).1,trivial⟩
theorem DA(f:b7 P w ad β H ah){b:Nat}{o o':Obj}(a:H[b]?=some o)(i:o.live)(j:o'.live)(n:∀v,o.has v->o'.has v)(l:∀L,o≠ .loop L){ob:Go.Obj}
 (_hb:β.an b<w.heap.size)(e:¬ad (β.an b)/\¬ah (β.an b))(aN:cw β H β (H.set b o'))
 (p:fC P {w with heap:=w.heap.setIfInBounds (β.an b) ob} ad β (H.set b o') ah b o')(q:o'.refs (aI (H.set b o'))):
 bZ P ah ad w β H ad {w with heap:=w.heap.setIfInBounds (β.an b) ob} β (H.set b o'):=by
 refine bZ.set f (hV.1 a).1 (fun _ _=>⟨rfl,rfl⟩) (fun _ x=>x) (fun _ x=>.inl x) (fun k hk=>by simpa using f.bS k hk) s_
  (fun k hk _=>?_) (fun _=>.inr ⟨rfl,⟨o,a,i⟩,.inr e.1,e.2⟩) aN p q (fun r v c g=>by rw[a]at c;cases c;exact n v g) (fun L d=>by rw[a]at d;cases d;exact(l L rfl).elim)
 have m:k≠β.an b:=hk.resolve_right (fun h=>h j);simp[ll m]
theorem IJ{T t E:dp}{m k x:dl}{b:Nat}{key v:PV}{a:List (PV×PV)}{r:Option PV}(g:o.op= .mapUpdate T m k x\/o.op= .insert T m k x)(z:jw P T=some (t,E))(ab:ρ m= .map b)(hk:ρ k= .p key)(hx:ρ x= .p v)
 (hf:eZ P t key=true)(f:mq P t a key=some r):bt P o ρ base {v:=.p (.aE []),al:=[(b,.map false a)],aK:=[(b,.map false (gh a key v))]}:=by
 have N:P.underlying T=some (.map t E):=by
  unfold jw at z
  split at z
  ·rename_i O;simp at z;rw[O,z.1,z.2]
  ·simp at z
 intro H w ad ah β c U Q al _;have G:H[b]?=some (.map false a):=by simpa using al
 have M:m∈o.op.operands/\k∈o.op.operands/\x∈o.op.operands:=by
  rcases g with g|g<;>simp[g,hp]
 have l:=(Q m M.1).1;have q:=(Q k M.2.1).1;have B:=(Q x M.2.2).1;rw[ab]at l;rw[hk]at q;rw[hx]at B;simp only[aD,bN,bR]at l q B;have l:=l.2.1 ⟨_,G,trivial⟩;obtain⟨i,clock,k1,k2,k3⟩:=U.cK b _ G;have S:¬ad (β.an b)/\¬ah (β.an b):=by
  unfold cE at k3;rw[if_neg s_]at k3;exact k3
 have F:fN P t a key=some r:=by
  by_cases s:kS key
  ·rw[<-UB s];exact f
  ·obtain⟨u,fs,bY,rfl,_⟩:=Ch hf s;simp only[mq]at f
   split at f
   ·rename_i hq;rw[hq];exact f
   ·cases f
 have K:=(Mh hf q k2 F).1 false;have R:β.an b<w.heap.size:=(b4.1 k1).1;have aN:cw β H β (H.set b (.map false (gh a key v))):=pB G (.inr (.inr (.inl ⟨_,_,_,_,rfl,rfl⟩)))
 have J:∀(y:Array ed)(A:Nat),(he T (c m) (c k) (c x)).run P w= .ok () {w with heap:=w.heap.setIfInBounds (β.an b) (.map y A)}->cF P w ad (gh a key v) y.toList->
  ∃n I w' aM aH,(ea c o).run P w=.ok n w'/\(n=.value I\/n=.skip/\I=undef)/\
  bZ P ah ad w β H aH w' aM (bc H ([(b,.map false (gh a key v))]++newAt base []))/\aD P w' aH aM (bc H ([(b,.map false (gh a key v))]++newAt base [])) (.p (.aE [])) I/\
  aG (aI (bc H ([(b,.map false (gh a key v))]++newAt base []))) (.p (.aE [])):=by
  intro y A af ac;have X:(ea c o).run P w=.ok .skip {w with heap:=w.heap.setIfInBounds (β.an b) (.map y A)}:=by
   rcases g with g|g<;>simp[ea,g,af]
  have ag:∀D,ad D->({w with heap:=w.heap.setIfInBounds (β.an b) (.map y A)}:ec).heap[D]?=w.heap[D]?:=by
   intro D aa;have:β.an b≠D:=fun W=>S.1 (W▸aa);simp[this]
  refine⟨_,_,_,β,ad,X,.inr ⟨rfl,rfl⟩,?_,by simp[aD,aF,br,undef],by simp[aG]⟩;simp only[newAt,h2,bc];exact DA (o':=.map false (gh a key v)) U G trivial trivial (fun _ h=>h) (fun _ h=>by cases h) R S aN ⟨y,A,by simp[R],cF.mono (fun _ x=>x) ag _ _ ac,k3⟩ trivial
 by_cases s:kS key
 case neg=>
  obtain⟨u,fs,bY,rfl,O,_,_⟩:=Ch hf s;have ae:r=none:=by
   simp only[mq]at f
   split at f
   ·simpa using f.symm
   ·cases f
  subst ae;rcases CG q a i.toList 0 none k2 F with⟨_,f1,f2⟩|⟨v',j,e,V,_⟩
  ·have C:=C9 O f1;refine J (i.push {key:=c k,val:=c x,born:=clock}) (clock+1) ?_ ?_
   ·rw[l];simp only[he,hK,dk N,hH,hn k1,K,C,run_setObj_map _ k1]
   ·rw[cv];exact f2 v (c x) clock B
  ·cases V
 obtain⟨d,L,Y⟩:=yt hf s q;rcases C8 L hf s q a i.toList 0 r k2 F with⟨rfl,f1⟩|⟨v',j,e,rfl,f1,f2,f3,f4,f5⟩
 ·have C:=run_findKey (w:=w) L f1;refine J (i.push {key:=c k,val:=c x,born:=clock}) (clock+1) ?_ ?_
  ·rw[l];simp only[he,hK,dk N,hH,hn k1,K,C,run_setObj_map _ k1]
  ·rw[cv];exact Jd (T:=t) q B clock a i.toList s k2 F
 ·have C:=run_findKey (w:=w) L f1;have Z:i[j]?=some e:=by simpa using f2
  refine J (i.modify j fun e=>{e with key:=c k,val:=c x}) clock ?_ ?_
  ·rw[l];simp only[he,hK,dk N,hH,hn k1,K,C];simp only[kK,Z,lu,ls,f4,run_keyThatStays Y,hH,run_setObj_map _ k1]
  ·rw[Array.toList_modify];exact f5 v (c x) B
theorem xN{v:PV}:lG v=true->kS v:=by
 cases v<;>simp[lG,kS]
theorem S2{b:Nat}{o o':Obj}(e:H[b]?=some o)(i:o.uY)(d:o'.uY):cw β H β (H.set b o'):=by
 have g:b<H.length:=(hV.1 e).1;have a:∀x,x≠b->(H.set b o')[x]?=H[x]?:=fun x hx=>h7 (ll hx);have c:(H.set b o')[b]?=some o':=hW g;refine⟨?_,?_,?_,?_,?_⟩
 ·rintro x _ ⟨fz,t,h⟩;refine⟨?_,rfl⟩
  by_cases hx:x=b
  ·subst hx;rw[c]at h;cases h;exact d.elim
  ·rw[a x hx]at h;exact⟨fz,t,h⟩
 ·rintro x _ ⟨fz,t,h⟩;refine⟨?_,rfl⟩
  by_cases hx:x=b
  ·subst hx;rw[c]at h;cases h;exact d.elim
  ·rw[a x hx]at h;exact⟨fz,t,h⟩
 ·rintro x _ ⟨l,h,j⟩;refine⟨?_,rfl⟩
  by_cases hx:x=b
  ·subst hx;exact⟨o,e,i⟩
  ·rw[a x hx]at h;exact⟨l,h,j⟩
 ·intro x aC ai k f _ h
  by_cases hx:x=b
  ·subst hx;unfold fh at h;rw[c]at h;cases h;exact d.elim
  ·unfold fh at h⊢;rw[a x hx]at h;exact⟨k,f,h,kv _,Iff.rfl,fun _=>⟨rfl,rfl⟩⟩
 ·rintro x _ ⟨L,h⟩;refine⟨?_,rfl⟩
  by_cases hx:x=b
  ·subst hx;rw[c]at h;cases h;exact d.elim
  ·rw[a x hx]at h;exact⟨L,h⟩
theorem GP:∀{b:List (PV×PV)}{a:List ed},cF P w ad b a->br P w ad (b.map (·.1)) (a.map (·.key))/\bw P w ad β H (b.map fun e=>.p e.2) (a.map (·.val))
 |[],a,h=>by
  simp only[cF]at h;subst h;simp[br,bw]
 |(k,v)::r,a,h=>by
  simp only[cF]at h;obtain⟨e,rest,rfl,c,d,f⟩:=h;obtain⟨i1,i2⟩:=GP f;simp only[h0,br,bw];exact⟨⟨_,_,rfl,c,i1⟩,⟨_,_,rfl,by simpa only[aD]using d,i2⟩⟩
theorem Tf{b:Nat}{d:Obj}{ks:List PV}{vs:List AV}(h:b7 P w ad β H ah)(g:H[b]?=some d)(a:pc d=some (ks,vs)):
 d.uY/\(∃c f,w.heap[β.an b]?=some (.map c f)/\br P w ad ks (c.toList.map (·.key))/\bw P w ad β H vs (c.toList.map (·.val))/\cE ad β ah false b)/\aV (aI H) vs:=by
 cases d<;>simp only[pc]at a<;>try (cases a;done)
 case map fz es=>
  cases fz
  case true=>simp at a
  simp only[lv,l0]at a;obtain⟨rfl,rfl⟩:=a;obtain⟨c,f,k1,k2,k3⟩:=h.cK b _ g;obtain⟨i1,i2⟩:=GP (β:=β) (H:=H) k2;exact⟨trivial,⟨c,f,k1,i1,i2,k3⟩,cM.2 fun v i=>by obtain⟨e,_,rfl⟩:=kp.1 i;trivial⟩
 case cZ j k=>
  simp only[lv,l0]at a;obtain⟨rfl,rfl⟩:=a;exact⟨trivial,h.cK b _ g,h.refs b _ g⟩
theorem Bu{T:dp}{d:fd}(n:P.underlying T=some d){key:PV}{o:dz}(hk:eZ P T key=true)(g:kS key)(m:aF P w ad key o):∀(ks:List PV)(vs:List AV)(c:List ed)(i:Nat)(r:Option AV),br P w ad ks (c.map (·.key))->bw P w ad β H vs (c.map (·.val))->jI P T ks vs key=some r->
 (r=none/\g7 d o c i=some none)\/∃(v:AV)(j:Nat)(e:ed),r=some v/\g7 d o c i=some (some (i+j,e.val))/\aD P w ad β H v e.val/\v∈vs
 |[],vs,c,i,r,f,k,h=>by
  cases c with
  |nil=>
   cases vs with
   |nil=>simp[jI]at h;subst h;exact .inl ⟨rfl,rfl⟩
   |cons a b=>simp[jI]at h
  |cons a b=>simp[br]at f
 |u::ks,vs,c,i,r,f,k,h=>by
  cases c with
  |nil=>simp[br]at f
  |cons e rest=>
   cases vs with
   |nil=>simp[bw]at k
   |cons v' vs=>
    simp only[h0,br,bw,List.cons.injEq]at f k;obtain⟨_,_,⟨rfl,rfl⟩,p,q⟩:=f;obtain⟨_,_,⟨rfl,rfl⟩,s,t⟩:=k;simp only[jI,DI g]at h
    split at h
    ·rename_i l;simp at h;subst h;obtain⟨g1,g2⟩:=zZ n hk g l m p;exact .inr ⟨v',0,e,rfl,by simp[g7,g1],s,List.mem_cons_self⟩
    ·rename_i l;obtain⟨g1,g2⟩:=zZ n hk g l m p;rcases Bu n hk g m ks vs rest (i+1) r q t h with⟨rfl,f1⟩|⟨v,j,e',rfl,f1,f3,f4⟩
     ·exact .inl ⟨rfl,by simp[g7,g1,f1]⟩
     ·exact .inr ⟨v,j+1,e',rfl,by simp[g7,g1,f1];omega,f3,h6 _ f4⟩
    ·simp at h
def nI(ok:Bool)(z:PV):Option AV->AV
 |some v=>if ok then .aE [v,.p (.bool true)]else v
 |none=>.p (if ok then .aE [z,.bool false]else z)
theorem GJ{T:dp}{f E:dp}{x k:dl}{ok:Bool}{key z:PV}{r:Option AV}{b:Nat}{ks:List PV}{vs:List AV}(i:o.op= .lookup T x k ok)(c:jw P T=some (f,E))(D:cB P E=some z)(hi:ρ k= .p key)(hk:eZ P f key=true)(n:lG key=true)(B:jI P f ks vs key=some r)
 (hx:ρ x=.map b):bt P o ρ base {v:=nI ok z r,al:=[(b,.cZ ks vs)]}:=by
 refine bt.same fun H w ad ah β F s t al=>?_;have a:=(t x (by simp[i,hp])).1;have g:=(t k (by simp[i,hp])).1;rw[hi]at g;simp only[aD]at g;rw[hx]at a;simp only[aD,bN,bR]at a;have l:H[b]?=some (.cZ ks vs):=by simpa using al
 obtain⟨y,clock,k1,k2,k3,_⟩:=s.cK b _ l;have hrefs:aV (aI H) vs:=s.refs b _ l;have a:=a.2.1 ⟨_,l,trivial⟩;have q:P.underlying T=some (.map f E):=by
  unfold jw at c
  split at c
  ·rename_i C;simp at c;rw[C,c.1,c.2]
  ·simp at c
 obtain⟨u,z1,z2⟩:=MD D;obtain⟨d,h,A⟩:=yt hk (xN n) g;have m:∀e,(ha e 10000 f (F k)).run P w=.ok () w:=fun e=>run_checkKey h A _ 9999;rcases Bu h hk (xN n) g ks vs y.toList 0 r k2 k3 B with⟨rfl,f1⟩|⟨v,j,e,rfl,f1,f3,f4⟩
 ·have hf:=run_findKey (w:=w) h f1;refine⟨if ok then .tuple #[u,.bool false]else u,?_,?_,by cases ok<;>simp[nI,aG]⟩
  ·simp only[ea,i];refine eE ?_;cases ok<;>simp[hh,dk q,a,hn k1,m,hf,z1]
  ·cases ok with
   |true=>simp only[nI,if_true,aD,aF,br];exact⟨_,⟨_,_,rfl,z2 w ad,_,_,rfl,rfl,rfl⟩,rfl⟩
   |false=>simpa[nI,aD]using z2 w ad
 ·have hf:=run_findKey (w:=w) h f1;refine⟨if ok then .tuple #[e.val,.bool true]else e.val,?_,?_,?_⟩
  ·simp only[ea,i];refine eE ?_;cases ok<;>simp[hh,dk q,a,hn k1,m,hf]
  ·cases ok with
   |true=>simp only[nI,if_true,aD,bw,aF];exact⟨_,⟨_,_,rfl,f3,_,_,rfl,rfl,rfl⟩,rfl⟩
   |false=>simpa[nI]using f3
  ·have:=cM.1 hrefs v f4;cases ok<;>simp[nI,aG,aV,this]
theorem GO{w:ec}{ad:Nat->Prop}{k:PV}{x:dz}:∀{a:List PV}{l:List dz},br P w ad a l->aF P w ad k x->br P w ad (a++[k]) (l++[x])
 |[],l,h,hx=>by simp only[br]at h;subst h;simp only[js,br];exact⟨_,_,rfl,hx,rfl⟩
 |v::a,l,h,hx=>by
  simp only[br]at h;obtain⟨y,d,rfl,b,c⟩:=h;simp only[List.cons_append,br];exact⟨_,_,rfl,b,GO c hx⟩
theorem xM{T i E:dp}{m k x:dl}{b:Nat}{key:PV}{u:Obj}{ks:List PV}{vs:List AV}(c:o.op= .mapUpdate T m k x\/o.op= .insert T m k x)(g:jw P T=some (i,E))(aa:ρ m= .map b)(hk:ρ k= .p key)
 (hf:eZ P i key=true)(O:pc u=some (ks,vs))(F:lG key=true)(Z:jI P i ks vs key=some none):bt P o ρ base {v:=.p (.aE []),al:=[(b,u)],aK:=[(b,.cZ (ks++[key]) (vs++[ρ x]))]}:=by
 have ab:P.underlying T=some (.map i E):=by
  unfold jw at g
  split at g
  ·rename_i ae;simp at g;rw[ae,g.1,g.2]
  ·simp at g
 intro H w ad ah β a G B al _;have s:H[b]?=some u:=by simpa using al
 have A:m∈o.op.operands/\k∈o.op.operands/\x∈o.op.operands:=by
  rcases c with c|c<;>simp[c,hp]
 have n:=(B m A.1).1;have q:=(B k A.2.1).1;obtain⟨M,N⟩:=B x A.2.2;rw[aa]at n;rw[hk]at q;simp only[aD,bN,bR]at n q;obtain⟨r,⟨l,clock,k1,k2,k3,k4⟩,af⟩:=Tf G s O;have n:=n.2.1 ⟨_,s,r⟩;have D:¬ad (β.an b)/\¬ah (β.an b):=by
  unfold cE at k4;rw[if_neg s_]at k4;exact k4
 obtain⟨d,z,W⟩:=yt hf (xN F) q;have R:(ha false 10000 i (a k)).run P w=.ok () w:=run_checkKey z W _ 9999;have C:β.an b<w.heap.size:=(b4.1 k1).1;have Q:b<H.length:=(hV.1 s).1;have aN:cw β H β (H.set b (.cZ (ks++[key]) (vs++[ρ x]))):=S2 s r trivial;rcases Bu z hf (xN F) q ks vs l.toList 0 none k2 k3 Z with⟨_,f1⟩|⟨v',j,e,L,_⟩
 case inr=>cases L
 have V:=run_findKey (w:=w) z f1;have ac:(he T (a m) (a k) (a x)).run P w=.ok () {w with heap:=w.heap.setIfInBounds (β.an b) (.map (l.push {key:=a k,val:=a x,born:=clock}) (clock+1))}:=by
  rw[n];simp only[he,hK,dk ab,hH,hn k1,R,V,run_setObj_map _ k1]
 have U:(ea a o).run P w=.ok .skip {w with heap:=w.heap.setIfInBounds (β.an b) (.map (l.push {key:=a k,val:=a x,born:=clock}) (clock+1))}:=by
  rcases c with c|c<;>simp[ea,c,ac]
 have I:∀t,ad t->({w with heap:=w.heap.setIfInBounds (β.an b) (.map (l.push {key:=a k,val:=a x,born:=clock}) (clock+1))}:ec).heap[t]?=w.heap[t]?:=by
  intro t Y;have:β.an b≠t:=fun S=>D.1 (S▸Y);simp[this]
 have X:∀y,aI H y->aI (H.set b (.cZ (ks++[key]) (vs++[ρ x]))) y:=by
  rintro⟨y,v⟩ ⟨ai,ag,f⟩
  by_cases K:b=y
  ·subst K;exact⟨.cZ (ks++[key]) (vs++[ρ x]),by simp only;rw[hW Q],trivial⟩
  ·exact⟨ai,by simp only;rw[h7 K];exact ag,f⟩
 have J:aV (aI H) (vs++[ρ x]):=cM.2 fun v f=>by
  rcases jF.1 f with f|f
  ·exact cM.1 af v f
  ·rw[i5.1 f];exact N
 refine⟨_,_,_,β,ad,U,.inr ⟨rfl,rfl⟩,?_,by simp[aD,aF,br,undef],by simp[aG]⟩;simp only[newAt,h2,bc];refine DA (o':=.cZ (ks++[key]) (vs++[ρ x])) G s (by cases u<;>first|trivial|exact r.elim) trivial (fun _ _=>trivial) (fun _ h=>by rw[h]at r;exact r.elim) C D aN ⟨l.push {key:=a k,val:=a x,born:=clock},clock+1,by simp[C],?_,?_,k4⟩ (aV.mono X _ J)
 ·rw[cv,h9];exact br.mono (fun _ x=>x) I _ _ (GO k2 q)
 ·rw[cv,h9];refine bw.mono (fun _ x=>x) I aN _ _ J (pj k3 ?_);simp only[h0,ii,bw];exact⟨_,_,rfl,M,rfl⟩
theorem xL{c:dp}{b:Nat}{key:PV}{x:AV}{a:Obj}{K:aY->Prop}(h:mO P c b key x a K):∃ks vs,pc a=some (ks,vs)/\lG key=true/\jI P c ks vs key=some none/\K {v:=.p (.aE []),al:=[(b,a)],aK:=[(b,.cZ (ks++[key]) (vs++[x]))]}:=by
 unfold mO at h
 split at h
 ·rename_i ks vs d;exact⟨ks,vs,d,h⟩
 ·exact h.elim
end
section
variable{P:dq}{w:ec}{ad ah:Nat->Prop}{β:Bd}{H:aj}
variable{o:Oper}{ρ:dl->AV}{base:Nat}
theorem UT(bs:ByteArray):gJ (ja bs)=bs:=by
 unfold gJ ja;apply ByteArray.ext;apply cb;simp only[jp];have:(l3∘fun x:UInt8=>x.toNat)=id:=by funext x;simp
 rw[this];simp
theorem Ya{T:dp}{x:dl}{s:List Nat}(d:o.op=.range T x)(hx:ρ x=.p (.str s))(e:iK P T=true):bt P o ρ base {v:=.ptr base [],aX:=[.dw s 0]}:=by
 intro H w ad ah β k b j _ f;have c:H[base]?=some .hole:=by simpa using f 0 s_
 have a:=(j x (by simp[d,hp])).1;rw[hx]at a;simp only[aD,aF]at a;obtain⟨bs,e1,e2⟩:=a;have i:(ea k o).run P w=.ok (.value (.pointer (some ⟨w.heap.size,0,none⟩))) {w with heap:=w.heap.push (.stringIter bs 0)}:=by
  simp only[ea,d,e1];exact u9 (by simp[Instr.range,dk (yj e)])
 have g:=tE (cap:=0) b c (ob:=.stringIter bs 0) (o':=.dw s 0)
  ⟨bs,by simp[Bd.at],e2,by
   simp only[cE,Bd.at,if_true,dg,if_false];exact⟨fun h=>kw _ (b.bS _ h),fun h=>kw _ (b.eM _ h)⟩⟩ trivial
 refine⟨_,_,_,_,ad,i,.inl rfl,g,?_,?_⟩
 ·simp only[aD,bN,bR,l6];exact⟨rfl,_,_,0,rfl,rfl,fun _=>by simp[Bd.at]⟩
 ·simp only[aG,l6];exact⟨_,hW (hV.1 c).1,trivial⟩
theorem aGV{it:dl}{b:Nat}{s:List Nat}{pos:Nat}(g:o.op= .next it true)(hx:ρ it= .ptr b []):
 (pos<s.length->bt P o ρ base {v:=.p (.aE [.bool true,.int .i64 pos,.int .i32 (hQ (gJ s) pos).1]),al:=[(b,.dw s pos)],aK:=[(b,.dw s (pos+(hQ (gJ s) pos).2))]})/\
 (¬pos<s.length->bt P o ρ base {v:=.p (.aE [.bool false]),al:=[(b,.dw s pos)]}):=by
 have key:∀{H:aj}{w:ec}{ad ah:Nat->Prop}{β:Bd}{e:dl->dz},b7 P w ad β H ah->(∀x∈o.op.operands,aD P w ad β H (ρ x) (e x)/\aG (aI H) (ρ x))->H[b]?=some (.dw s pos)->
  e it=.pointer (some ⟨β.an b,0,none⟩)/\∃bs:ByteArray,w.heap[β.an b]?=some (.stringIter bs pos)/\s=ja bs/\(¬ad (β.an b)/\¬ah (β.an b)):=by
  intro H w ad ah β e d f a;have c:=(f it (by simp[g,hp])).1;rw[hx]at c;simp only[aD,bN,bR]at c;obtain⟨_,an,off,t,m,k,n⟩:=c;simp[gA]at k;subst k;obtain⟨rfl,rfl⟩:=n (.inr ⟨_,_,a⟩);obtain⟨bs,k1,k2,k3⟩:=d.cK b _ a;unfold cE at k3;rw[if_neg s_]at k3;exact⟨m,bs,k1,k2,k3⟩
 constructor
 ·intro i H w ad ah β e d f al _;have a:H[b]?=some (.dw s pos):=by simpa using al
  obtain⟨c,bs,k1,rfl,k3⟩:=key d f a;have j:pos<bs.size:=by simpa[ja]using i
  have l:β.an b<w.heap.size:=(b4.1 k1).1;rw[UT];have r:(ea e o).run P w=.ok (.value (.tuple #[.bool true,goInt pos,.int .i32 (hQ bs pos).1])) {w with heap:=w.heap.setIfInBounds (β.an b) (.stringIter bs (pos+(hQ bs pos).2))}:=by
   simp only[ea,g,c];refine u9 ?_;simp[hm,getObj,setObj,hM,k1,hJ,j]
  have aN:cw β H β (H.set b (.dw (ja bs) (pos+(hQ bs pos).2))):=pB a (.inr (.inr (.inr ⟨_,_,_,rfl,rfl⟩)));have q:=DA (o':=.dw (ja bs) (pos+(hQ bs pos).2)) (ob:=.stringIter bs (pos+(hQ bs pos).2)) d a trivial trivial (fun _ h=>h) (fun _ h=>by cases h) l k3 aN
   ⟨bs,by simp[l],rfl,by unfold cE;rw[if_neg s_];exact k3⟩ trivial
  refine⟨_,_,_,β,ad,r,.inl rfl,?_,?_,by simp[aG]⟩
  ·simpa only[newAt,h2,bc]using q
  ·simp only[aD,aF,br];exact⟨_,⟨_,_,rfl,rfl,_,_,rfl,rfl,_,_,rfl,rfl,rfl⟩,rfl⟩
 ·intro i;refine bt.same fun H w ad ah β e d f al=>?_;have a:H[b]?=some (.dw s pos):=by simpa using al
  obtain⟨c,bs,k1,rfl,k3⟩:=key d f a;have j:¬pos<bs.size:=by simpa[ja]using i
  refine⟨.tuple #[.bool false],?_,by simp only[aD,aF,br];exact⟨_,⟨_,_,rfl,rfl,rfl⟩,rfl⟩,by simp[aG]⟩;simp only[ea,g,c];refine eE ?_;simp[hm,getObj,hM,k1,hJ,j]
theorem Yb{T u:dp}{x:dl}{f:Nat}{fs:Array e6}{t g:PV}{F:dp}(h:o.op= .field T x f)(hk:kindOf P T= .agg u)(b:P.underlying T=some (.struct fs))(hx:ρ x= .p t)(hs:aL t= .agg u)(e:(bY t)[f]?=some g)(m:(jn P u)[f]?=some F)(q:kindOf P F=aL g):
 bt P o ρ base {v:=.p g}:=by
 refine bt.same fun H w ad ah β I C s _=>?_;have a:=(s x (by simp[h,hp])).1;rw[hx]at a;simp only[aD]at a;cases t<;>simp[aL]at hs;rename_i u' k;subst hs;simp only[bY]at e;simp only[aF]at a;obtain⟨l,d,k1,k2,k3⟩:=a;obtain⟨B,D,s1,s2,E,j,G,z⟩:=vf (P:=P) (T:=T) (u:=u') (n:=fs.size) (by unfold fj;rw[hk,b]);rw[b]at s1;cases s1;rw[k1]at j;cases j;have r:bM P w ad ⟨id,id⟩ [] l (k.map .p) d:=nT.2 k2;obtain⟨pre,c,post,e1,e2,e3,e4,e5,_⟩:=tO (f:=.p g) (i:=f) r (by simp[e]);simp only[bn]at e5;obtain⟨A,g1,g2,g3,g4,g5⟩:=z f o_;rw[m]at g5;cases g5;obtain⟨y,y1,y2⟩:=rD q e5 (pre:=pre) (post:=post) (cs:=d.flatten.toArray) (by simpa using e1);refine⟨y,?_,by simpa only[aD]using y2,by simp[aG]⟩;simp only[ea,h,k3];refine eE ?_;rw[e2,<-g2]at y1;simp only[Instr.field,hK,dk b,hH,g1];simp[asAgg,y1]
theorem Vw{T u:dp}{n:Nat}{x k:dl}{O:en}{i:Int}{a:List PV}{g:PV}{F:dp}(j:o.op= .index T x k)(A:gP P T=some (u,n))(hx:ρ x= .p (.st u a))(hi:ρ k= .p (.int O i))
 (z:0<=i)(J:i.toNat<n)(h:(jn P u)[i.toNat]?=some F)(E:a[i.toNat]?=some g)(G:kindOf P F=aL g):bt P o ρ base {v:=.p g}:=by
 refine bt.same fun H w ad ah β R Q t _=>?_;have b:=(t x (by simp[j,hp])).1;have d:=(t k (by simp[j,hp])).1;rw[hx]at b;rw[hi]at d;simp only[aD,aF]at b d;obtain⟨l,m,k1,k2,k3⟩:=b;obtain⟨e,s,hk,r,K⟩:=tK A;rw[k1]at r;cases r;have B:F=e:=by
  obtain⟨D,_,_⟩:=Cg hk;have C:(P.info? u).map (fun i:eo=>i.desc)=some (.array n e):=by rw[D,<-BU,s]
  unfold jn at h;rw[C]at h;have q:(hZ n e)[i.toNat]?=some F:=h;rw[List.getElem?_replicate,if_pos J]at q;exact(lw q).symm
 subst B;have L:bM P w ad ⟨id,id⟩ [] (hZ n (P.cellsOf F)) (a.map .p) m:=nT.2 k2;obtain⟨pre,c,post,e1,e2,e3,e4,e5,_⟩:=tO (f:=.p g) (i:=i.toNat) L (by simp[E]);simp only[bn]at e5;obtain⟨y,y1,y2⟩:=rD G e5 (pre:=pre) (post:=post) (cs:=m.flatten.toArray) (by simpa using e1);have M:((hZ n (P.cellsOf F)).take i.toNat).sum=i.toNat*P.cellsOf F:=by rw[List.take_replicate,Nat.min_eq_left o_,List.sum_replicate_nat]
 have N:(sizeOf F).run P w=.ok (P.cellsOf F) w:=by
  cases hi:P.info? F with
  |none=>simp[Program.cellsOf,hi]at K
  |some i=>simp[sizeOf,typeInfo,hi,Program.cellsOf]
 refine⟨y,?_,by simpa only[aD]using y2,by simp[aG]⟩;simp only[ea,j,k3,d];refine eE ?_;have I:i<(n:Int):=o_
 rw[e2,M]at y1;simp only[Instr.index,asIntOf,hK,hL,dk s,hH];simp[z,I,N,y1]
theorem IX{k:en}{f:Bool}{ρc:dl->dz}:∀(l:List dl)(a n:Int),mg k f (l.map ρ) a=some n->(∀x∈l,aD P w ad β H (ρ x) (ρc x))->
 ((l.map ρc).foldlM (if f then gt else gm) (.int k a)).run P w=.ok (.int k n) w
 |[],a,n,h,_=>by simp[mg]at h;subst h;simp
 |x::l,a,n,h,g=>by
  simp only[h0]at h;unfold mg at h
  split at h
  ·rename_i e;cases e
  ·rename_i j b r a' e;simp at e;obtain⟨e1,rfl⟩:=e
   split at h
   case isFalse=>simp at h
   rename_i hk;subst hk;have d:=g x s_;rw[e1]at d;simp only[aD,aF]at d;have c:=IX l _ n h (fun y i=>g y (by simp[i]));simp only[h0,List.foldlM_cons,hK,d];cases f with
   |true=>simp only[if_true,gt,hL,hH]at c⊢;exact c
   |false=>simp only[dg,if_false,gm,hL,hH]at c⊢;exact c
  ·simp at h
theorem Kg{c:Call}{isMax:Bool}{k:en}{a n:Int}{r:List AV}(m:o.op= .call c)(hc:c.callee= .builtin (if isMax then .max else .min))(b:c.args.toList.map ρ= .p (.int k a)::r)(h:mg k isMax r a=some n):
 bt P o ρ base {v:=.p (.int k n)}:=by
 obtain⟨x,l,i⟩:∃x l,c.args.toList=x::l:=by
  cases s:c.args.toList with
  |nil=>rw[s]at b;simp at b
  |cons x l=>exact⟨x,l,rfl⟩
 rw[i]at b;simp at b;obtain⟨hx,rfl⟩:=b;have g:c.args=(x::l).toArray:=by apply cb;simpa using i
 have j:∀y∈x::l,y∈o.op.operands:=by
  intro y f;rw[m];simp only[hp,g0,hc,g];simpa using f
 refine bt.same fun H w ad ah β t u q _=>⟨.int k n,?_,by simp[aD,aF],by simp[aG]⟩
 have d:=(q x (j x s_)).1;rw[hx]at d;simp only[aD,aF]at d;have e:=IX (ρc:=t) l a n h (fun y f=>(q y (j y (by simp[f]))).1);simp only[ea,m,resolve,hc,g];cases isMax with
 |true=>
  simp only[if_true]at e⊢;simp[invoke,builtin,gy,d,e]
 |false=>
  simp only[dg,if_false]at e⊢;simp[invoke,builtin,gx,d,e]
theorem aGR{c:Call}{d x:dl}{sz b aC off len:Nat}{k:AK}{f g:List AV}{H0:aj}(V:o.op= .call c)(hc:c.callee= .builtin .copy)(Q:c.args.toList=[d,x])(au:c.argTypes.size=2)(t:cJ P (c.argTypes.getD 0 0)=some sz)
 (ac:ρ d=.sl b aC sz off len)(hx:gY H0 (ρ x)=some g)(ar:fa P sz g)(hk:k≠.frozen)(G:off+len<=f.length)(C:¬dc k f):
 bt P o ρ base {v:=.p (.int .i64 (min g.length len:Nat)),al:=(b,.arr k aC sz f)::dD H0 (ρ x),aK:=[(b,.arr k aC sz (f.take off++g.take (min g.length len)++f.drop (off+min g.length len)))]}:=by
 obtain⟨T,X,O⟩:∃T X,c.argTypes=#[T,X]:=by
  obtain⟨l,G⟩:∃l,l=c.argTypes.toList:=⟨_,rfl⟩
  have s:l.length=2:=by rw[G];simpa using au
  match l,s with
  |[a,b],_=>exact⟨a,b,by apply cb;simp[<-G]⟩
 have I:d∈o.op.operands/\x∈o.op.operands:=by
  have ab:c.args=#[d,x]:=by apply cb;simpa using Q
  rw[V];simp[hp,g0,hc,ab]
 have e1:c.argTypes.getD 0 0=T:=by rw[O];rfl
 rw[e1]at t;obtain⟨e,i,t⟩:=kG t;intro H w ad ah β aa D M al _;have r:H[b]?=some (.arr k aC sz f):=al (b,_) s_;have j:=(M d I.1).1;rw[ac]at j;simp only[aD,bN,bR]at j;obtain⟨_,_,j⟩:=j.2 k f r;have j:=j C;rcases D.cK b _ r with hold|⟨cs,E,aB,rest,k1,k2,k3,k4,k5,k6,k7,k8⟩
 ·exact(C hold).elim
 have S:¬ad (β.an b)/\¬ah (β.an b):=by
  unfold cE at k7;rw[if_neg (by simpa using hk)]at k7;exact k7
 obtain⟨aA,aw,ax,ay,az⟩:=vM (o9 hx (fun p an=>al p (h6 _ an))) D (M x I.2).1 (M x I.2).2 ar;obtain⟨n,U⟩:∃n,n=min g.length len:=⟨_,rfl⟩
 rw[<-U];have Z:=az w rfl n o_;obtain⟨y,m,z,g1,g2,g3,g4,g5⟩:=jZ aw 0 n o_;have av:y=[]:=by have:=(fW g4).1;simpa using this
 subst av;have ai:aA.take n=m:=by
  have:=(fW g2).1;rw[g1];simp at this⊢;rw[List.take_left' o_]
 rw[ai]at Z;simp only[j8]at g2;obtain⟨a,N,q,f1,f2,f3,f4,f5⟩:=jZ k2 off n o_;have J:m.flatten.length=n*sz:=by have:=(fW g2).2;rw[this];congr 1;simp;omega
 have K:N.flatten.length=n*sz:=by have:=(fW f2).2;rw[this];congr 1;simp;omega
 have R:cs.toList=a.flatten++N.flatten++(q.flatten++rest):=by rw[k3,f1];simp
 have Y:cs.size=a.flatten.length+N.flatten.length+(q.flatten++rest).length:=by
  have:=congrArg j7 R;simp only[hX,ce]at this;rw[this,hX]
 have L:=ej P (β.an b) (off*sz) E m.flatten 0 cs w k1 (by rw[Y,f3,J,K];simp only[kF];exact kN _ _) (vU g2);simp only[kF]at L;have aX:cs.toList.take (off*sz)++m.flatten++cs.toList.drop (off*sz+m.flatten.length)=a.flatten++m.flatten++(q.flatten++rest):=by
  rw[R,<-f3,J,<-K];exact BV _ _ _ _
 rw[aX]at L;have ap:(gg c.argTypes o.type #[aa d,aa x]).run P w=.ok (goInt n) (w.setRow (β.an b) (a.flatten++m.flatten++(q.flatten++rest)).toArray):=by
  rw[O,j];have ak:Nat.min g.length len=n:=U.symm;have aE:∀(p:Option Addr)(n c:Nat),gb (.slice p n c)=pure n:=fun _ _ _=>rfl;simp[gg,dk t.gK,ay,ak,t.run,Z,L]
 have B:(f.take off++g.take n++f.drop (off+n)).length=f.length:=by simp;omega
 have aN:cw β H β (H.set b (.arr k aC sz (f.take off++g.take n++f.drop (off+n)))):=pB r (.inr (.inl ⟨_,_,_,_,_,rfl,rfl,B.symm⟩));have aq:∀A,ad A->(w.setRow (β.an b) (a.flatten++m.flatten++(q.flatten++rest)).toArray).heap[A]?=w.heap[A]?:=fun A ag=>ei w _ A _ (fun F=>S.1 (F▸ag));have hrefs:aV (aI H) (f.take off++g.take n++f.drop (off+n)):=by
  have W:=cM.1 (D.refs b _ r);refine jY (jY ?_ ?_) ?_
  ·rw[cM];exact fun v u=>W v (h5 u)
  ·rw[cM];exact fun v u=>cM.1 ax v (h5 u)
  ·rw[cM];exact fun v u=>W v (ih u)
 have ae:=mj r (o:=.arr k aC sz (f.take off++g.take n++f.drop (off+n))) (fun _ h=>h);have am:¬dc k (f.take off++g.take n++f.drop (off+n)):=fun h=>C ⟨h.1,by have s:=h.2;rw[<-h8]at s⊢;rw[B]at s;exact s⟩;have ao:=qK D r C (o':=.arr k aC sz (f.take off++g.take n++f.drop (off+n))) am (fun _ h=>h) k1 (new:=(a.flatten++m.flatten++(q.flatten++rest)).toArray) S aN
  (.inr ⟨_,E,a++m++q,rest,em w _ _ _ E _ k1,by
   refine Row.mono (fun _ x=>x) aq aN hrefs (lI.2 ⟨_,_,rfl,lI.2 ⟨_,_,rfl,f4,g2⟩,f5⟩),s_,by
   rw[<-k4,Y];simp only[ip,hX,J,K],by rw[B];exact k5,fun F=>by rw[B];exact k6 F,k7,(fun af=>(hk af).elim),k8.2⟩) (aV.mono ae _ hrefs)
 refine⟨_,_,_,β,ad,Xb V hc Q ap,.inl rfl,?_,by simp[aD,aF,goInt],by simp[aG]⟩;simpa only[newAt,h2,bc]using ao
end
section
variable{P:dq}{w:ec}{ad ah:Nat->Prop}{β:Bd}{H:aj}
variable{o:Oper}{ρ:dl->AV}{base:Nat}
theorem zp{c:Call}{x:dl}(e:o.op=.call c){b:Builtin}(hc:c.callee=.builtin b)(d:c.args.toList=[x]):x∈o.op.operands/\c.args=#[x]:=by
 have a:c.args=#[x]:=by apply cb;simpa using d
 refine⟨?_,a⟩;rw[e];simp only[hp,g0,hc,a];simp
theorem yi{T:dp}{a:AV}(h:il P T a=true)(hs:(∃b v e i l,a=.sl b v e i l)\/a=.p .aO\/∃f c,a=.p (.cT f c)):∃e,P.underlying T=some (.slice e):=by
 rcases hs with⟨b,v,e,i,l,rfl⟩|rfl|⟨f,c,rfl⟩<;>
 ·simp only[il]at h
  split at h
  ·rename_i e d;exact⟨e,d⟩
  ·simp at h
theorem aGP{c:Call}{x:dl}{n:Nat}{al:List (Nat×Obj)}{H0:aj}(y:o.op= .call c)(hc:c.callee= .builtin .cap)(A:c.args.toList=[x])(a:Au H0 (ρ x)=some (n,al))(m:il P (c.argTypes.getD 0 0) (ρ x)=true)(F:0<c.argTypes.size):
 bt P o ρ base {v:=.p (.int .i64 n),al}/\(∀p∈al,H0[p.1]?=some p.2):=by
 obtain⟨q,B⟩:=zp y hc A;have C:c.argTypes[0]?=some (c.argTypes.getD 0 0):=by simp[c6,F]
 generalize c.argTypes.getD 0 0=T at*
 have j:∀{H:aj}{w:ec}{ad:Nat->Prop}{β:Bd}{f:dl->dz},(∃p l,f x= .slice p l n)->(∃e,P.underlying T=some (.slice e))->
  ∃s,(ea f o).run P w=.ok (.value s) w/\aD P w ad β H (.p (.int .i64 n)) s/\aG (aI H) (.p (.int .i64 n)):=by
  rintro H w ad β f ⟨p,l,hx⟩ ⟨e,G⟩;refine⟨goInt n,?_,by simp[aD,aF,goInt],by simp[aG]⟩;simp only[ea,y,resolve,hc,B];simp[invoke,builtin,gB,C,hx,dk G]
 unfold Au at a
 split at a
 ·rename_i hx;simp at a;obtain⟨rfl,rfl⟩:=a;refine⟨bt.same fun H w ad ah β f r g al=>j ?_ (yi m (.inr (.inl hx))),s_⟩;have d:=(g x q).1;rw[hx]at d;simp only[aD,aF]at d;exact⟨_,_,d⟩
 ·rename_i i hx;simp at a;obtain⟨rfl,rfl⟩:=a;refine⟨bt.same fun H w ad ah β f r g al=>j ?_ (yi m (.inr (.inr ⟨_,_,hx⟩))),s_⟩;have d:=(g x q).1;rw[hx]at d;simp only[aD,aF]at d;obtain⟨_,_,cap,_,_,_,_,_,z,_,_,_,k⟩:=d;exact⟨_,_,by rw[k,z trivial]⟩
 ·rename_i b aC ai off len hx
  split at a
  case h_2=>simp at a
  rename_i L K i E
  split at a
  case isFalse=>simp at a
  rename_i D;obtain⟨rfl,rfl,hle⟩:=D;simp at a;obtain⟨rfl,rfl⟩:=a;refine⟨bt.same fun H w ad ah β f r g al=>j ?_ (yi m (.inl ⟨_,_,_,_,_,hx⟩)),by simpa using E⟩;have u:H[b]?=some (.arr .exact aC ai i):=by simpa using al
  have d:=(g x q).1;rw[hx]at d;simp only[aD,bN,bR]at d;obtain⟨_,_,k⟩:=d.2 _ _ u;have t:¬dc .exact i:=fun h=>by simp[dc,AK.gr]at h
  rcases r.cK b _ u with hold|⟨cs,I,J,rest,k1,k2,k3,k4,k5,k6,_⟩
  ·exact(t hold).elim
  exact⟨_,_,by rw[k t,k6 rfl]⟩
 ·simp at a
theorem Uk{c:Call}{x:dl}(b:o.op= .call c)(hc:c.callee= .builtin .clear)(f:c.args.toList=[x])(hx:ρ x= .p .aO)(d:il P (c.argTypes.getD 0 0) (ρ x)=true)(j:0<c.argTypes.size):
 bt P o ρ base {v:=.p (.aE [])}:=by
 obtain⟨i,g⟩:=zp b hc f;have h:c.argTypes[0]?=some (c.argTypes.getD 0 0):=by simp[c6,j]
 generalize c.argTypes.getD 0 0=T at*;obtain⟨e,k⟩:=yi d (.inr (.inl hx));refine bt.same fun H w ad ah β n m l al=>?_;have a:=(l x i).1;rw[hx]at a;simp only[aD,aF]at a;refine⟨.tuple #[],?_,by simp[aD,aF,br],by simp[aG]⟩;simp only[ea,b,resolve,hc,g];simp[invoke,builtin,ge,h,a,dk k]
theorem Yc{c:Call}{x:dl}{sz b aC off len:Nat}{k:AK}{d:List AV}{z:PV}(M:o.op= .call c)(hc:c.callee= .builtin .clear)(V:c.args.toList=[x])(aj:0<c.argTypes.size)(l:cJ P (c.argTypes.getD 0 0)=some sz)
 (ak:cB P (ek P (c.argTypes.getD 0 0))=some z)(ar:bG P (aL z)=sz)(hx:ρ x=.sl b aC sz off len)(hk:k≠.frozen)(ab:off+len<=d.length)(t:¬dc k d)(aq:0<len):
 bt P o ρ base {v:=.p (.aE []),al:=[(b,.arr k aC sz d)],aK:=[(b,.arr k aC sz (d.take off++hZ len (.p z)++d.drop (off+len)))]}:=by
 obtain⟨ac,W⟩:=zp M hc V;have X:c.argTypes[0]?=some (c.argTypes.getD 0 0):=by simp[c6,aj]
 obtain⟨e,i,l⟩:=kG l;obtain⟨au,r,z1,z2,z3,z4⟩:=qN ak;rw[l.qB]at z1;intro H w ad ah β U D ao al _;have j:H[b]?=some (.arr k aC sz d):=al (b,_) s_;have g:=(ao x ac).1;rw[hx]at g;simp only[aD,bN,bR]at g;obtain⟨_,_,g⟩:=g.2 k d j;have g:=g t;rcases D.cK b _ j with hold|⟨cs,u,ap,rest,k1,k2,k3,k4,k5,k6,k7,k8⟩
 ·exact(t hold).elim
 have K:¬ad (β.an b)/\¬ah (β.an b):=by
  unfold cE at k7;rw[if_neg (by simpa using hk)]at k7;exact k7
 have Q:=z3 w ad;have R:r.cells.size=sz:=by have:=(py Q).1;simp at this;omega
 have an:r.cells.toList.length=sz:=by simpa using R
 have E:=yc (β:=β) (H:=H) Q len;rw[an]at E;obtain⟨m,L⟩:∃m,m=hZ len r.cells.toList:=⟨_,rfl⟩
 rw[<-L]at E;have F:Row P w ad β H sz (hZ len (.p z)) m:=by
  exact E
 obtain⟨a,I,f,f1,f2,f3,f4,f5⟩:=jZ k2 off len ab;have B:m.flatten.length=len*sz:=by have:=(fW F).2;rw[this];simp
 have C:I.flatten.length=len*sz:=by have:=(fW f2).2;rw[this];congr 1;simp;omega
 have J:cs.toList=a.flatten++I.flatten++(f.flatten++rest):=by rw[k3,f1];simp
 have O:cs.size=a.flatten.length+I.flatten.length+(f.flatten++rest).length:=by
  have:=congrArg j7 J;simp only[hX,ce]at this;rw[this,hX]
 have G:=ej P (β.an b) (off*sz) u m.flatten 0 cs w k1 (by rw[O,f3,B,C];simp only[kF];exact kN _ _) (vU F);simp only[kF]at G;have aX:cs.toList.take (off*sz)++m.flatten++cs.toList.drop (off*sz+m.flatten.length)=a.flatten++m.flatten++(f.flatten++rest):=by
  rw[J,<-f3,B,<-C];exact BV _ _ _ _
 rw[aX]at G;have am:(gc r.cells len).toList=m.flatten:=by
  have:=B5 r.cells len (by rw[R];exact l.pos);rw[L,<-this];rfl
 have ag:(ea U o).run P w=.ok (.value (.tuple #[])) (w.setRow (β.an b) (a.flatten++m.flatten++(f.flatten++rest)).toArray):=by
  obtain⟨S,rfl⟩:∃S,len=S+1:=⟨len-1,o_⟩
  simp only[ea,M,resolve,hc,W];generalize c.argTypes.getD 0 0=T at*;simp only[hK,hL,hH,invoke,builtin,i7,h0,ii];have key:(ge c.argTypes o.type #[U x]).run P w=.ok (.tuple #[]) (w.setRow (β.an b) (a.flatten++m.flatten++(f.flatten++rest)).toArray):=by
   simp[ge,X,g,dk l.gK,tC z1 z2,am,G]
  rw[key];rfl
 have s:(d.take off++hZ len (AV.p z)++d.drop (off+len)).length=d.length:=by simp;omega
 have aN:cw β H β (H.set b (.arr k aC sz (d.take off++hZ len (.p z)++d.drop (off+len)))):=pB j (.inr (.inl ⟨_,_,_,_,_,rfl,rfl,s.symm⟩));have ai:∀q,ad q->(w.setRow (β.an b) (a.flatten++m.flatten++(f.flatten++rest)).toArray).heap[q]?=w.heap[q]?:=fun q aa=>ei w _ q _ (fun A=>K.1 (A▸aa));have hrefs:aV (aI H) (d.take off++hZ len (AV.p z)++d.drop (off+len)):=by
  have N:=cM.1 (D.refs b _ j);refine jY (jY ?_ ?_) ?_
  ·rw[cM];exact fun v n=>N v (h5 n)
  ·rw[cM];intro v n;rw[List.eq_of_mem_replicate n];simp[aG]
  ·rw[cM];exact fun v n=>N v (ih n)
 have Y:=mj j (o:=.arr k aC sz (d.take off++hZ len (.p z)++d.drop (off+len))) (fun _ h=>h);have ae:¬dc k (d.take off++hZ len (AV.p z)++d.drop (off+len)):=fun h=>t ⟨h.1,by have y:=h.2;rw[<-h8]at y⊢;rw[s]at y;exact y⟩;have af:=qK D j t (o':=.arr k aC sz (d.take off++hZ len (AV.p z)++d.drop (off+len))) ae (fun _ h=>h) k1 (new:=(a.flatten++m.flatten++(f.flatten++rest)).toArray) K aN
  (.inr ⟨_,u,a++m++f,rest,em w _ _ _ u _ k1,by
   refine Row.mono (fun _ x=>x) ai aN hrefs (lI.2 ⟨_,_,rfl,lI.2 ⟨_,_,rfl,f4,F⟩,f5⟩),s_,by
   rw[<-k4,O];simp only[ip,hX,B,C],by rw[s];exact k5,fun A=>by rw[s];exact k6 A,k7,(fun Z=>(hk Z).elim),k8.2⟩) (aV.mono Y _ hrefs)
 refine⟨_,_,_,β,ad,ag,.inl rfl,?_,by simp[aD,aF,br],by simp[aG]⟩;simpa only[newAt,h2,bc]using af
theorem B3{c:Call}{x:dl}{v:AV}{al:List (Nat×Obj)}{H0:aj}(l:o.op= .call c)(hc:c.callee= .builtin .unsafeSliceData)(n:c.args.toList=[x])
 (h:(ρ x=.p .aO/\v=.p .dL/\al=[])\/∃b aC ai off len k a,ρ x=.sl b aC ai off len/\H0[b]?=some (.arr k aC ai a)/\al=[(b,.arr k aC ai a)]/\((dc k a/\v=.p .dL)\/(0<len/\off+len<=a.length/\v=.cd b aC ai off []))):
 bt P o ρ base {v,al}:=by
 obtain⟨s,q⟩:=zp l hc n;refine bt.same fun H w ad ah β m t y r=>?_;obtain⟨d,i⟩:=y x s;have g:∀f,(gw c.argTypes o.type #[m x]).run P w=.ok f w->(ea m o).run P w=.ok (.value f) w:=by
  intro f u;simp only[ea,l,resolve,hc,q];simp only[hK,hL,hH,invoke,builtin,i7,h0,ii];rw[u];rfl
 rcases h with⟨hx,rfl,rfl⟩|⟨b,aC,ai,off,len,k,a,hx,D,rfl,h⟩
 ·rw[hx]at d;simp only[aD,aF]at d;exact⟨_,g _ (by rw[d];exact Lib.run_unsafeSliceData_nil w _ _ _ _),by simp[aD,aF],by simp[aG]⟩
 ·have j:H[b]?=some (.arr k aC ai a):=by simpa using r
  rw[hx]at d i;simp only[aD,bN,bR]at d;obtain⟨_,v2,v3⟩:=d.2 k a j;rcases h with⟨e,rfl⟩|⟨E,hle,rfl⟩
  ·exact⟨_,g _ (by rw[v2 e];exact Lib.run_unsafeSliceData_nil w _ _ _ _),by simp[aD,aF],by simp[aG]⟩
  ·have e:¬dc k a:=fun h=>by rw[h.2]at hle;simp at hle;omega
   rcases t.cK b _ j with hold|⟨cs,z,A,rest,k1,k2,k3,k4,k5,_⟩
   ·exact(e hold).elim
   refine⟨_,g _ (by rw[v3 e];exact Lib.run_unsafeSliceData_row w _ _ _ _ _ o_),?_,by simpa only[aG]using i⟩;simp only[aD,bN,bR];refine⟨by simp[hR],β.an b,off*ai,0,s_,rfl,fun F B C _=>⟨rfl,s_⟩⟩
theorem Xu(w:ec)(a:Addr)(n:Nat):(w.freeze a n).os=w.os/\(w.freeze a n).output=w.output:=by
 unfold hT
 first|exact⟨rfl,rfl⟩|(split<;>exact⟨rfl,rfl⟩)
theorem Xn{w':ec}(j:b7 P w ad β H ah){b:Nat}{o:Obj}(i:H[b]?=some o)(v:o.live)(g:¬ad (β.an b)/\¬ah (β.an b))(C:∀L,o≠ .loop L)(D:w'.heap.size=w.heap.size)
 (hs:∀k,k≠β.an b->w'.heap[k]?=w.heap[k]?)(B:w'.os=w.os/\w'.output=w.output:=by exact⟨rfl,rfl⟩):bZ P ah ad w β H ad w' β (H.set b .dead):=by
 have n:b<H.length:=(hV.1 i).1;have c:∀(x:Nat)(a:Obj),(H.set b Obj.dead)[x]?=some a->a≠.dead->H[x]?=some a:=by
  intro x a hx q
  by_cases l:b=x
  ·subst l;rw[hW n]at hx;cases hx;exact(q rfl).elim
  ·rwa [h7 l]at hx
 have aN:cw β H β (H.set b .dead):=by
  refine⟨?_,?_,?_,?_,?_⟩
  ·rintro x _ ⟨f,t,h⟩;exact⟨⟨f,t,c _ _ h s_⟩,rfl⟩
  ·rintro x _ ⟨f,t,h⟩;exact⟨⟨f,t,c _ _ h s_⟩,rfl⟩
  ·rintro x _ ⟨E,h,p⟩;exact⟨⟨E,c _ _ h (fun e=>by rw[e]at p;exact p.elim),p⟩,rfl⟩
  ·intro x aC ai k y _ h;exact⟨k,y,c _ _ h s_,kv _,Iff.rfl,fun _=>⟨rfl,rfl⟩⟩
  ·rintro x _ ⟨L,h⟩;exact⟨⟨L,c _ _ h s_⟩,rfl⟩
 have m:bZ P ah ad w β H ad w β (H.set b .dead):=
  bZ.set j n (fun _ _=>⟨rfl,rfl⟩) (fun _ x=>x) (fun _ x=>.inl x) j.bS (kv _) (fun _ _ _=>rfl) (fun h=>h.elim) aN trivial trivial (fun _ _ _ _=>trivial) (fun L s=>by rw[i]at s;cases s;exact(C L rfl).elim)
 have hx:=j.om i v;have z:=m.rel.K7 hx (fun x a r d u=>by
  have q:a≠.dead:=fun e=>by rw[e]at d;exact d
  have l:x=b:=j.inj x b a o (c _ _ r q) i d v (fun hi=>g.1 (u▸hi)) u;subst l;rw[hW n]at r;cases r;exact d)
 have A:=z.shut (w':=w') (Prot0:=ah) (fun _ h=>.inl h) (R:=fun k=>k=β.an b) (fun x e=>⟨.inr e,e▸g.1⟩) D (fun k hk=>hs k hk);refine⟨fun _ h=>h,fun _ h=>.inl h,⟨o_,fun k hk=>hs k (fun e=>?_),B⟩,aN,A,m.fS,m.loop⟩;rcases hk with hk|hk
 ·exact g.2 (e▸hk)
 ·exact g.1 (e▸hk)
theorem CD:∀{d:List AV}{l:List Nat}{b:List (List dz)},bytesOf d=some l->Row P w ad β H 1 d b->b.flatten=l.map (fun c=>hS .u8 (c:Nat))/\l.length=d.length/\∀c∈l,c<256
 |[],l,b,h,a=>by
  simp[bytesOf]at h;subst h;rw[iD]at a;subst a;simp
 |v::d,l,b,h,a=>by
  unfold bytesOf at h
  split at h
  ·rename_i e;cases e
  ·rename_i c r e;simp at e;obtain⟨rfl,rfl⟩:=e
   split at h
   case isFalse=>simp at h
   rename_i hc
   split at h
   case h_2=>simp at h
   rename_i m i;simp at h;subst h;rw[qV]at a;obtain⟨j,cs,rfl,f,k,g⟩:=a;obtain⟨i1,i2,i3⟩:=CD i g;simp only[bn,aZ]at f;subst f;refine⟨by simp[i1];omega,by simp[i2],?_⟩;intro x hx;rcases h3.1 hx with rfl|hx
   ·omega
   ·exact i3 x hx
  ·simp at h
theorem Ux{S D e:dp}{x:dl}{b aC off len:Nat}{k:AK}{d:List AV}{l:List Nat}(r:o.op= .convert S D x)(A:P.underlying S=some (.slice e))(u:P.underlying D=some .string)(y:P.underlying e=some (.int .u8))(hx:ρ x= .sl b aC 1 off len)
 (L:0<len)(j:off+len<=d.length)(C:bytesOf ((d.drop off).take len)=some l):bt P o ρ base {v:=.p (.str l),al:=[(b,.arr k aC 1 d)]}:=by
 refine bt.same fun H w ad ah β M F I al=>?_;have q:H[b]?=some (.arr k aC 1 d):=by simpa using al
 have f:=(I x (by simp[r,hp])).1;rw[hx]at f;simp only[aD,bN,bR]at f;have n:¬dc k d:=fun h=>by rw[h.2]at j;simp at j;omega
 have f:=(f.2 _ _ q).2.2 n;rcases F.cK b _ q with hold|⟨cs,J,K,rest,k1,k2,k3,k4,k5,k6,k7,k8⟩
 ·exact(n hold).elim
 obtain⟨a,m,z,g1,g2,g3,g4,g5⟩:=jZ k2 off len j;obtain⟨b1,s,t⟩:=CD C g2;have E:l.length=len:=by rw[s];simp;omega
 have B:cs.toList=a.flatten++(l.map (fun c=>hS .u8 (c:Nat))++(z.flatten++rest)):=by
  rw[k3,g1];simp only[i4,ix,b1]
 have G:=run_convert_bytes_arg (P:=P) w S e A y (β.an b) (off*1) len (β.cap b-off) (l.map fun c:Nat=>(c:Int)) (by simpa using E) (fun i hi=>by
  have g:i<l.length:=o_
  have:cs[off*1+i]?=some (.int .u8 (l[i]:Nat)):=by
   rw[<-cc,B,List.getElem?_append_right o_,g3,Nat.add_sub_cancel_left,i6 (by simpa using g),j6,h4 g];rfl
  rw[List.getD_eq_getElem?_getD,j6,h4 g];simp only[hU,k1];simpa using this) D u
 refine⟨.string (strOfNums (l.map fun c:Nat=>(c:Int))),?_,?_,by simp[aG]⟩
 ·simp only[ea,r,f];exact eE G
 ·simp only[aD,aF];refine⟨_,rfl,?_⟩;rw[strOfNums_data,jp,jp]
  conv=>lhs;rw[<-kt l]
  refine j4 fun c hc=>?_;have:=t c hc;simp[l1];omega
theorem TV{c:Call}{x y:dl}{b aC n:Nat}{d:List AV}{l:List Nat}{T X:dp}(F:o.op= .call c)(hc:c.callee= .builtin .unsafeString)(M:c.args.toList=[x,y])(aa:c.argTypes=#[T,X])(hx:ρ x= .cd b aC 1 0 [])(ac:ρ y= .p (.int .i64 n))
 (ag:0<n)(C:n<=d.length)(ai:n<=9223372036854775807)(L:P.underlying T=some (.pointer Gl.u8))(ab:P.cellsOf Gl.u8=1)(V:bytesOf (d.take n)=some l):
 bt P o ρ base {v:=.p (.str l),al:=[(b,.arr .bytes aC 1 d)],aK:=[(b,.dead)]}:=by
 have s:c.args=#[x,y]:=by apply cb;simpa using M
 have D:x∈o.op.operands/\y∈o.op.operands:=by
  rw[F];simp[hp,g0,hc,s]
 intro H w ad ah β r G I al _;have q:H[b]?=some (.arr .bytes aC 1 d):=by simpa using al
 have e:=(I x D.1).1;have f:=(I y D.2).1;rw[hx]at e;rw[ac]at f;simp only[aD,bN,bR,aF]at e f;have i:¬dc .bytes d:=fun h=>by rw[h.2]at C;simp at C;omega
 obtain⟨_,an,off,aj,W,E,e⟩:=e;simp[gA]at E;subst E;obtain⟨rfl,rfl⟩:=e _ _ q i;rcases G.cK b _ q with hold|⟨cs,ae,af,rest,k1,k2,k3,k4,k5,k6,k7,k8⟩
 ·exact(i hold).elim
 obtain rfl:=k8.2 rfl;have S:¬ad (β.an b)/\¬ah (β.an b):=by
  unfold cE at k7;rw[if_neg s_]at k7;exact k7
 obtain⟨a,m,z,g1,g2,g3,g4,g5⟩:=jZ k2 0 n o_;have N:a=[]:=by have:=(fW g4).1;simpa using this
 subst N;rw[j8]at g2;obtain⟨b1,J,K⟩:=CD V g2;obtain⟨bs,u⟩:∃bs:List UInt8,bs=l.map l3:=⟨_,rfl⟩
 have g:bs.length=n:=by rw[u];simp[J];omega
 have t:bs.map (·.toNat)=l:=by
  rw[u,jp]
  conv=>rhs;rw[<-kt l]
  refine j4 fun c hc=>?_;have:=K c hc;simp[l1];omega
 have A:cs.toList=bs.map (fun c=>hS .u8 c.toNat)++(z.flatten++rest):=by
  rw[k3,g1];simp only[js,i4,ix,b1];congr 1;rw[<-t,jp];rfl
 have Z:=Lib.run_unsafeString_row (P:=P) w T X o.type Gl.u8 L ab (β.an b) cs.size (by simp[World.shape?,k1]) bs (fun h=>by rw[h]at g;simp at g;omega) (by
  have:=congrArg j7 A;simp only[ce,hX,kk]at this;omega) o_ (fun j v B=>by
  have U:j<bs.length:=(hV.1 B).1;rw[kM];have:cs[j]?=some (.int .u8 v.toNat):=by
   rw[<-cc,A,i6 (by simpa using U),j6,B];rfl
  simp[hU,k1,this])
 have O:(ea r o).run P w=.ok (.value (.string ⟨bs.toArray⟩)) (w.freeze ⟨β.an b,0,none⟩ bs.length):=by
  simp only[ea,F,resolve,hc,s];simp only[hK,hL,hH,invoke,builtin,i7,h0,ii];have key:(gi c.argTypes o.type #[r x,r y]).run P w=.ok (.string ⟨bs.toArray⟩) (w.freeze ⟨β.an b,0,none⟩ bs.length):=by
   rw[aa,W,f,<-g];simpa using Z
  rw[key];rfl
 have R:∀k,k≠β.an b->(w.freeze ⟨β.an b,0,none⟩ bs.length).heap[k]?=w.heap[k]?:=by
  intro k hk;unfold hT
  split
  ·rfl
  ·simp[Array.getElem?_modify,ll hk]
 have Q:(w.freeze ⟨β.an b,0,none⟩ bs.length).heap.size=w.heap.size:=by
  unfold hT
  split<;>simp
 have Y:=Xn G q i S (fun _ h=>by cases h) Q R (Xu _ _ _);refine⟨_,_,_,β,ad,O,.inl rfl,?_,?_,by simp[aG]⟩
 ·simpa only[newAt,h2,bc]using Y
 ·simp only[aD,aF];exact⟨_,rfl,by simpa using t.symm⟩
theorem TR{c:Call}{x y:dl}{T X:dp}(f:o.op= .call c)(hc:c.callee= .builtin .unsafeString)(i:c.args.toList=[x,y])(j:c.argTypes=#[T,X])(hx:ρ x= .p .dL)(k:ρ y= .p (.int .i64 0)):
 bt P o ρ base {v:=.p (.str [])}:=by
 have d:c.args=#[x,y]:=by apply cb;simpa using i
 have e:x∈o.op.operands/\y∈o.op.operands:=by
  rw[f];simp[hp,g0,hc,d]
 refine bt.same fun H w ad ah β h l g al=>?_;have a:=(g x e.1).1;have b:=(g y e.2).1;rw[hx]at a;rw[k]at b;simp only[aD,aF]at a b;refine⟨.string .empty,?_,by simp only[aD,aF];exact⟨_,rfl,rfl⟩,by simp[aG]⟩;simp only[ea,f,resolve,hc,d];simp only[hK,hL,hH,invoke,builtin,i7,h0,ii];have key:(gi c.argTypes o.type #[h x,h y]).run P w=.ok (.string .empty) w:=by
  rw[j,a,b];exact Lib.run_unsafeString_none w _ _ _ _
 rw[key];rfl
end
section
variable{P:dq}
theorem DW{c:Call}{ρ:dl->AV}{x:AV}(a:c.args.toList.map ρ=[x]):∃y,c.args.toList=[y]/\ρ y=x:=by
 match b:c.args.toList with
 |[]=>rw[b]at a;simp at a
 |[y]=>rw[b]at a;simp at a;exact⟨y,rfl,a⟩
 |_::_::_=>rw[b]at a;simp at a
theorem J6{c:Call}(h:c.argTypes.size=2):∃T X,c.argTypes=#[T,X]:=by
 obtain⟨l,d⟩:∃l,l=c.argTypes.toList:=⟨_,rfl⟩
 have e:l.length=2:=by rw[d];simpa using h
 match l,e with
 |[a,b],_=>exact⟨a,b,by apply cb;simp[<-d]⟩
theorem ph(ag:eb->Bool):l8 P ag:=by
 intro o ρ H K _ h;unfold fG at h;have plain:∀{e:aY},K e->bt P o ρ H.length e->e.al=[]->e.aK=[]->∃e,K e/\bt P o ρ H.length e/\(∀p∈e.al,H[p.1]?=some p.2)/\(∀p∈e.aK,p.1<H.length/\p.2≠.hole):=by
  intro e A B G I;exact⟨e,A,B,by simp[G],by simp[I]⟩
 cases q:o.op<;>simp only[q]at h
 case move x=>exact plain h (Rm (.inl q)) rfl rfl
 case assign x=>exact plain h (Rm (.inr q)) rfl rfl
 case pick c a b=>
  split at h
  ·rename_i t hc;exact plain h (aGX q hc) rfl rfl
  ·exact h.elim
 case alloc T=>
  split at h
  ·rename_i z N;exact plain h.2.2.2 (Ye q N h.2.2.1) rfl rfl
  ·exact h.elim
 case box T x=>exact plain h.2.2.2 (aGO q h.2.1 h.2.2.1) rfl rfl
 case build T parts=>
  split at h
  ·rename_i u z hk N
   split at h
   ·rename_i l C;obtain⟨A,B,G⟩:=h;exact plain G (Yd q hk N C A B) rfl rfl
   ·exact h.elim
  ·exact h.elim
 case buildSlice T n parts=>
  split at h
  ·rename_i sz z V N;obtain⟨A,B,G,I⟩:=h;exact plain I (Ul q V N A B G) rfl rfl
  ·exact h.elim
 case load T a=>exact aGU q h
 case store T a x=>exact YR q h
 case binOp b T x y aG=>
  obtain⟨v,A,B⟩:=aGN (base:=H.length) q h;exact⟨_,A,B,nJ,s_⟩
 case unOp u T x=>
  split at h
  ·rename_i b hx;exact plain h (EZ q hx (.inl ⟨rfl,_,rfl,rfl⟩)) rfl rfl
  ·rename_i k n hx;exact plain h (EZ q hx (.inr (.inl ⟨rfl,_,_,rfl,rfl⟩))) rfl rfl
  ·rename_i k n hx;exact plain h (EZ q hx (.inr (.inr ⟨rfl,_,_,rfl,rfl⟩))) rfl rfl
  ·exact h.elim
 case convert S D x=>
  split at h
  ·rename_i d k k0 n ab aa hx;exact plain h (VR q ⟨_,ab⟩ aa hx) rfl rfl
  ·rename_i d s ab aa hx;exact plain h (VQ q ⟨_,ab⟩ aa hx) rfl rfl
  ·rename_i e b aC ai off len ab aa hx
   split at h
   case h_2=>exact h.elim
   rename_i k aj af U w;obtain⟨rfl,rfl,rfl,V,ak,hle,h⟩:=h
   split at h
   case h_2=>exact h.elim
   rename_i l C;exact⟨_,h,Ux q ab aa V hx ak hle C,by simpa using w,s_⟩
  ·exact h.elim
 case extract t i=>
  split at h
  ·rename_i vs ap
   split at h
   ·rename_i v aq;exact plain h (JX q (.inr ⟨_,ap,rfl⟩) (by simp[aq])) rfl rfl
   ·exact h.elim
  ·rename_i vs ap
   split at h
   ·rename_i v aq;exact plain h (JX q (.inl ap) aq) rfl rfl
   ·exact h.elim
  ·exact h.elim
 case fieldAddr T a f=>
  obtain⟨e,A,B,G,I⟩:=Uw (base:=H.length) q h;exact plain A B G I
 case indexAddr T x i=>
  obtain⟨e,A,B,G,I⟩:=Uv (base:=H.length) q h;exact⟨e,A,B,G,by simp[I]⟩
 case field T x f=>
  split at h
  ·rename_i u fs t hk az hx;obtain⟨A,h⟩:=h
   split at h
   ·rename_i g F ao am;exact plain h.2 (Yb q hk az hx A ao am h.1) rfl rfl
   ·exact h.elim
  ·exact h.elim
 case index T x i=>
  split at h
  ·rename_i s k n hx hi;obtain⟨A,B,G,I⟩:=h;exact plain I (Vv q hx hi A B G) rfl rfl
  ·rename_i u U k n hx hi
   split at h
   ·rename_i u' m F g J am ao;obtain⟨rfl,ak,ac,hk,h⟩:=h;exact plain h (Vw q J hx hi ak ac am ao hk) rfl rfl
   ·exact h.elim
  ·exact h.elim
 case makeFunc fn fi ca=>
  cases fn<;>simp only at h
  case func f=>
   obtain⟨m1,m2,m3⟩:=Vu (ρ:=ρ) (base:=H.length) q
   split at h
   ·split at h
    ·rename_i a b al aK j an;obtain⟨q1,ad,aF⟩:=m3 H a b al aK j an;exact⟨_,h,q1,ad,aF⟩
    ·exact h.elim
   ·split at h
    ·rename_i a b j an;exact plain h (m1 a b j an) rfl rfl
    ·exact plain h m2 rfl rfl
 case makeSlice T l c=>
  split at h
  ·rename_i sz z aH c' V N C hc;obtain⟨A,B,rfl,I,O⟩:=h;exact plain O (Uu q V N C hc A B I) rfl rfl
  ·exact h.elim
 case slice T x lo hi aA=>
  cases aA with
  |none=>
   obtain⟨e,A,B,G,I⟩:=X9 (base:=H.length) q h;exact⟨e,A,B,G,by simp[I]⟩
  |some m=>
   obtain⟨e,A,B,G,I⟩:=WZ (base:=H.length) q h;exact⟨e,A,B,G,by simp[I]⟩
 case makeMap T r=>
  cases r<;>simp only at h;exact plain h (VP q) rfl rfl
 case lookup T x i ok=>
  split at h
  case h_2=>exact h.elim
  rename_i ae E key J hi
  split at h
  case h_2=>exact h.elim
  rename_i z N;obtain⟨hk,h⟩:=h
  split at h
  ·rename_i hx;exact plain h (vt (r:=none) (es:=[]) q J N hi hk rfl (.inl ⟨hx,rfl⟩)) rfl rfl
  ·rename_i U hx
   split at h
   ·rename_i v C;exact plain h (vt (r:=some v) q J N hi hk C (.inr (.inl hx))) rfl rfl
   ·rename_i C;exact plain h (vt (r:=none) q J N hi hk C (.inr (.inl hx))) rfl rfl
   ·exact h.elim
  ·rename_i b hx
   split at h
   case h_3=>exact h.elim
   ·rename_i fz U w
    split at h
    ·rename_i v C;exact⟨_,h,vt (r:=some v) q J N hi hk C (.inr (.inr ⟨b,fz,hx,s_⟩)),by simpa using w,s_⟩
    ·rename_i C;exact⟨_,h,vt (r:=none) q J N hi hk C (.inr (.inr ⟨b,fz,hx,s_⟩)),by simpa using w,s_⟩
    ·exact h.elim
   ·rename_i ks vs w;obtain⟨Q,h⟩:=h
    split at h
    ·rename_i v C;exact⟨_,h,GJ (r:=some v) q J N hi hk Q C hx,by simpa using w,s_⟩
    ·rename_i C;exact⟨_,h,GJ (r:=none) q J N hi hk Q C hx,by simpa using w,s_⟩
    ·exact h.elim
  ·exact h.elim
 case mapUpdate T m k x=>
  split at h
  case h_3=>exact h.elim
  ·rename_i ae E b key v J W hk hx;obtain⟨hf,h⟩:=h
   split at h
   case h_3=>exact h.elim
   ·rename_i U w
    split at h
    case h_2=>exact h.elim
    rename_i r C;exact⟨_,h,IJ (.inl q) J W hk hx hf C,by simpa using w,by simpa using(hV.1 w).1⟩
   ·rename_i ks vs w;obtain⟨ar,au,j,Q,C,h⟩:=xL h;rw[<-hx]at h;exact⟨_,h,xM (.inl q) J W hk hf j Q C,by simpa using w,by simpa using(hV.1 w).1⟩
  ·rename_i ae E b key J W hk _;obtain⟨hf,h⟩:=h
   split at h
   case h_2=>exact h.elim
   rename_i aE w;obtain⟨ar,au,j,Q,C,h⟩:=xL h;exact⟨_,h,xM (.inl q) J W hk hf j Q C,by simpa using w,by simpa using(hV.1 w).1⟩
 case insert T m k x=>
  split at h
  case h_3=>exact h.elim
  ·rename_i ae E b key v J W hk hx;obtain⟨hf,h⟩:=h
   split at h
   case h_3=>exact h.elim
   ·rename_i U w
    split at h
    case h_2=>exact h.elim
    rename_i r C;exact⟨_,h,IJ (.inr q) J W hk hx hf C,by simpa using w,by simpa using(hV.1 w).1⟩
   ·rename_i ks vs w;obtain⟨ar,au,j,Q,C,h⟩:=xL h;rw[<-hx]at h;exact⟨_,h,xM (.inr q) J W hk hf j Q C,by simpa using w,by simpa using(hV.1 w).1⟩
  ·rename_i ae E b key J W hk _;obtain⟨hf,h⟩:=h
   split at h
   case h_2=>exact h.elim
   rename_i aE w;obtain⟨ar,au,j,Q,C,h⟩:=xL h;exact⟨_,h,xM (.inr q) J W hk hf j Q C,by simpa using w,by simpa using(hV.1 w).1⟩
 case range T x=>
  split at h
  ·rename_i s hx;exact plain h.2 (Ya q hx h.1) rfl rfl
  ·exact h.elim
 case next it isStr=>
  cases isStr<;>simp only at h
  split at h
  case h_2=>exact h.elim
  rename_i b hx
  split at h
  case h_2=>exact h.elim
  rename_i s pos w;obtain⟨aB,aD⟩:=aGV (P:=P) (base:=H.length) (s:=s) (pos:=pos) q hx
  split at h
  ·rename_i Y;exact⟨_,h,aB Y,by simpa using w,by simpa using(hV.1 w).1⟩
  ·rename_i Y;exact⟨_,h,aD Y,by simpa using w,s_⟩
 case nilCheck x=>
  split at h
  ·rename_i b p hx;exact plain h (BX q (.inl ⟨b,p,hx⟩)) rfl rfl
  ·rename_i b v e i p hx;exact plain h (BX q (.inr (.inl ⟨b,v,e,i,p,hx⟩))) rfl rfl
  ·rename_i t hx;exact plain h (BX q (.inr (.inr ⟨t,hx⟩))) rfl rfl
  ·exact h.elim
 case call c=>
  split at h
  case h_2=>exact h.elim
  rename_i b hc
  split at h
  ·rename_i x j
   split at h
   case h_2=>exact h.elim
   rename_i n al C;obtain⟨A,B,G⟩:=h;obtain⟨y,M,rfl⟩:∃y,c.args.toList=[y]/\ρ y=x:=by
    match L:c.args.toList with
    |[]=>rw[L]at j;simp at j
    |[y]=>rw[L]at j;simp at j;exact⟨y,rfl,j⟩
    |_::_::_=>rw[L]at j;simp at j
   obtain⟨q1,ad⟩:=aGT (P:=P) (base:=H.length) q hc M C A B;exact⟨_,G,q1,ad,s_⟩
  ·rename_i s x j;obtain⟨y,z,M,rfl,rfl⟩:∃y z,c.args.toList=[y,z]/\ρ y=s/\ρ z=x:=by
    match L:c.args.toList with
    |[]=>rw[L]at j;simp at j
    |[y]=>rw[L]at j;simp at j
    |[y,z]=>rw[L]at j;simp at j;exact⟨y,z,rfl,j.1,j.2⟩
    |_::_::_::_=>rw[L]at j;simp at j
   exact W1 q hc M h.1 h.2
  ·rename_i k a r j
   split at h
   ·rename_i n ac;exact plain h (Kg (isMax:=false) q hc j ac) rfl rfl
   ·exact h.elim
  ·rename_i k a r j
   split at h
   ·rename_i n ac;exact plain h (Kg (isMax:=true) q hc j ac) rfl rfl
   ·exact h.elim
  ·rename_i d x j;obtain⟨y,z,M,ax,rfl⟩:∃y z,c.args.toList=[y,z]/\ρ y=d/\ρ z=x:=by
    match L:c.args.toList with
    |[]=>rw[L]at j;simp at j
    |[y]=>rw[L]at j;simp at j
    |[y,z]=>rw[L]at j;simp at j;exact⟨y,z,rfl,j.1,j.2⟩
    |_::_::_::_=>rw[L]at j;simp at j
   split at h
   case h_2=>exact h.elim
   rename_i sz b aC ai off len aI V hx;obtain⟨rfl,A,B,h⟩:=h
   split at h
   case h_2=>exact h.elim
   rename_i k aj af U w;obtain⟨rfl,rfl,G,I,O,Z⟩:=h;refine⟨_,Z,aGR q hc M B V ax hx A G I O,?_,by simpa using(hV.1 w).1⟩;intro p Y;rcases h3.1 Y with rfl|Y
   ·exact w
   ·exact nJ p Y
  ·rename_i x j;obtain⟨y,M,rfl⟩:=DW j
   split at h
   case h_2=>exact h.elim
   rename_i n al C;obtain⟨A,B,G⟩:=h;obtain⟨q1,ad⟩:=aGP (P:=P) (base:=H.length) q hc M C A B;exact⟨_,G,q1,ad,s_⟩
  ·rename_i x j;obtain⟨y,M,R⟩:=DW j
   split at h
   ·rw[<-R]at h;exact plain h.2.2 (Uk q hc M R h.1 h.2.1) rfl rfl
   ·split at h
    ·rename_i b aC ai off len sz z k aj af U V N w;obtain⟨rfl,rfl,rfl,A,B,G,I,O,Z,aw⟩:=h;exact⟨_,aw,Yc q hc M O V N A R B G I Z,by simpa using w,by simpa using(hV.1 w).1⟩
    ·exact h.elim
   ·exact h.elim
  ·rename_i x j;obtain⟨y,M,R⟩:=DW j
   split at h
   ·exact plain h (B3 (H0:=H) q hc M (.inl ⟨R,rfl,rfl⟩)) rfl rfl
   ·split at h
    ·rename_i b aC ai off len k aj af U w;obtain⟨rfl,rfl,h⟩:=h;rcases h with⟨A,B,G⟩|⟨A,B,G⟩
     ·exact⟨_,G,B3 q hc M (.inr ⟨_,_,_,_,_,_,_,R,w,rfl,.inl ⟨⟨A,B⟩,rfl⟩⟩),by simpa using w,s_⟩
     ·exact⟨_,G,B3 q hc M (.inr ⟨_,_,_,_,_,_,_,R,w,rfl,.inr ⟨A,B,rfl⟩⟩),by simpa using w,s_⟩
    ·exact h.elim
   ·exact h.elim
  ·rename_i x n j;obtain⟨y,z,M,R,av⟩:∃y z,c.args.toList=[y,z]/\ρ y=x/\ρ z=.p (.int .i64 n):=by
    match L:c.args.toList with
    |[]=>rw[L]at j;simp at j
    |[y]=>rw[L]at j;simp at j
    |[y,z]=>rw[L]at j;simp at j;exact⟨y,z,rfl,j.1,j.2⟩
    |_::_::_::_=>rw[L]at j;simp at j
   split at h
   ·obtain⟨rfl,A,B⟩:=h;obtain⟨T,X,ah⟩:=J6 A;exact plain B (TR q hc M ah R av) rfl rfl
   ·split at h
    ·rename_i b aC ai i aj af U w;obtain⟨rfl,rfl,rfl,rfl,A,B,G,I,O,Z,h⟩:=h;obtain⟨T,X,ah⟩:=J6 I
     split at h
     ·rename_i l C;obtain⟨m,rfl⟩:=Int.eq_ofNat_of_zero_le (by omega:0<=n);simp only[Int.toNat_natCast]at B C;have J:P.underlying T=some (.pointer Gl.u8):=by
       rw[ah]at O;simp only[ptrTo]at O
       split at O
       ·rename_i e ay;simp at O;rw[<-O];exact ay
       ·simp at O
      exact⟨_,h,TV q hc M ah R av o_ B o_ J Z C,by simpa using w,by simpa using(hV.1 w).1⟩
     ·exact h.elim
    ·exact h.elim
   ·exact h.elim
  ·exact h.elim
end
section
variable{P:dq}{ag:eb->Bool}{n:Nat}
theorem KY{o o':Obj}(h:mA o=some o'):mA o'=some o':=by
 unfold mA at h
 split at h
 ·simp at h;subst h;rfl
 ·rename_i k aC ai b
  split at h
  ·simp at h
  ·split at h
   ·rename_i l a;simp at h;subst h;simp[mA,AK.gr,a]
   ·simp at h
 ·simp at h;subst h;rfl
 ·simp at h
theorem axC{w:ec}{ad ah:Nat->Prop}{β:Bd}{H:aj}(d:b7 P w ad β H ah){b:Nat}{o o':Obj}(c:H[b]?=some o)(hf:mA o=some o'):
 ∃aH,bZ P ah ad w β H aH w β (H.set b o')/\aH (β.an b):=by
 unfold mA at hf
 split at hf
 ·rename_i fz t;simp at hf;subst hf;obtain⟨cs,T,g,i,j,m⟩:=d.cK b _ c;have aN:cw β H β (H.set b (.box true (.p t))):=qM c (.inl ⟨_,_,_,rfl,rfl⟩);exact qR d c trivial (o':=.box true (.p t)) trivial (fun _ h=>h) (fun _ h=>by cases h) aN j.rN
   (fun aH hi l=>⟨cs,T,g,bn.mono hi (fun _ _=>rfl) aN _ _ (by simp[aG]) i,l,fun _=>trivial,m.2⟩) (by simp[Obj.refs,aG])
 ·rename_i k aC ai f
  split at hf
  ·simp at hf
  ·rename_i q
   split at hf
   case h_2=>simp at hf
   rename_i C z;simp at hf;subst hf;have r:=mh z;rcases d.cK b _ c with hold|⟨cs,T,u,rest,g,i,j,m,x,A,y,B⟩
   ·exact(q hold).elim
   have s:¬dc .frozen f:=fun h=>by cases h.1
   have aN:cw β H β (H.set b (.arr .frozen aC ai f)):=qM c (.inr (.inl ⟨_,_,_,_,_,rfl,rfl,q,s⟩));exact qR d c q (o':=.arr .frozen aC ai f) s (fun _ h=>h) (fun _ h=>by cases h) aN y.rN
    (fun aH hi l=>.inr ⟨cs,T,u,rest,g,bM.mono hi (fun _ _=>rfl) aN _ _ _ (d.refs b _ c) i,j,m,x,(fun h=>by cases h),l,fun _ e n=>(by rw[r]at n;simp at n;obtain⟨a,_,rfl⟩:=n;trivial),fun h=>by cases h⟩)
    (by rw[r];exact iS _ _)
 ·rename_i fz f;simp at hf;subst hf;obtain⟨v,clock,g,i,j⟩:=d.cK b _ c;have aN:cw β H β (H.set b (.map true f)):=qM c (.inr (.inr ⟨_,_,_,rfl,rfl⟩));exact qR d c trivial (o':=.map true f) trivial (fun _ h=>h) (fun _ h=>by cases h) aN j.rN
   (fun aH hi l=>⟨v,clock,g,cF.mono hi (fun _ _=>rfl) _ _ i,l⟩) trivial
 ·simp at hf
theorem Jq{w:ec}{ah:Nat->Prop}{β:Bd}{H0:aj}:∀(bs:List Nat){al aK:List (Nat×Obj)}{H:aj}{ad:Nat->Prop},lL H0 bs=some (al,aK)->b7 P w ad β H ah->
 (∀p∈al,∃c,H[p.1]?=some c/\mA c=mA p.2)->∃aH,bZ P ah ad w β H aH w β (bc H aK)/\∀b∈bs,aH (β.an b)
 |[],al,aK,H,ad,h,a,_=>by
  simp[lL]at h;obtain⟨rfl,rfl⟩:=h;exact⟨ad,bZ.refl a,s_⟩
 |b::bs,al,aK,H,ad,h,a,hc=>by
  simp only[lL]at h
  split at h
  case h_2=>simp at h
  rename_i o q s r g
  split at h
  case h_2=>simp at h
  rename_i o' hf;simp at h;obtain⟨rfl,rfl⟩:=h;obtain⟨c,g1,g2⟩:=hc (b,o) s_;simp only at g1 g2;rw[hf]at g2;obtain⟨n,e,l⟩:=axC a g1 g2;have i:b<H.length:=(hV.1 g1).1;obtain⟨f,q1,m⟩:=Jq bs g e.rel (by
   intro p j;obtain⟨k,k1,k2⟩:=hc p (by simp[j])
   by_cases d:b=p.1
   ·rw[<-d]at k1⊢;rw[g1]at k1;cases k1;refine⟨o',by rw[hW i],?_⟩;rw[<-k2,g2,KY g2]
   ·exact⟨k,by rw[h7 d];exact k1,k2⟩)
  refine⟨f,by simpa only[bc]using e.trans q1,?_⟩;intro x hx;rcases h3.1 hx with rfl|hx
  ·exact q1.bS _ l
  ·exact m x hx
theorem KZ{H0:aj}:∀(bs:List Nat){al aK:List (Nat×Obj)},lL H0 bs=some (al,aK)->(∀p∈al,H0[p.1]?=some p.2)/\(∀p∈aK,p.1<H0.length/\p.2≠.hole)/\al.map (·.1)=bs
 |[],al,aK,h=>by
  simp[lL]at h;obtain⟨rfl,rfl⟩:=h;simp
 |b::bs,al,aK,h=>by
  simp only[lL]at h
  split at h
  case h_2=>simp at h
  rename_i o f g d e
  split at h
  case h_2=>simp at h
  rename_i o' hf;simp at h;obtain⟨rfl,rfl⟩:=h;obtain⟨i1,i2,i3⟩:=KZ bs e;refine⟨?_,?_,by simp[i3]⟩
  ·intro p a;rcases h3.1 a with rfl|a
   ·exact d
   ·exact i1 p a
  ·intro p a;rcases h3.1 a with rfl|a
   ·refine⟨(hV.1 d).1,fun c=>?_⟩;simp only at c;have:=KY hf;rw[c]at this;simp[mA]at this
   ·exact i2 p a
theorem YG{w:ec}{ad aH ah:Nat->Prop}{β:Bd}{H0 H:aj}{a:AV}{A:PV}{bs:List Nat}{v:dz}(d:mH H0 a=some (A,bs))(al:∀b∈bs,H[b]?=H0[b]?)(n:b7 P w ad β H ah)(e:aD P w ad β H a v)
 (hi:∀k,ad k->aH k)(r:∀b∈bs,aH (β.an b)):aF P w aH A v:=by
 cases a with
 |p t=>
  simp[mH]at d;obtain⟨rfl,rfl⟩:=d;simp only[aD]at e;exact aF.mono hi (fun _ _=>rfl) _ _ e
 |sl b aC ai off len=>
  simp only[mH]at d
  split at d
  case h_2=>simp at d
  rename_i k U N g l
  split at d
  case isFalse=>simp at d
  rename_i G;obtain⟨rfl,rfl,S⟩:=G
  split at d
  ·simp at d
  ·rename_i y
   split at d
   case h_2=>simp at d
   rename_i z J;simp at d;obtain⟨rfl,rfl⟩:=d;have x:=mh J;have f:H[b]?=some (.arr k aC ai g):=by rw[al b s_];exact l
   have j:=r b s_;simp only[aD,bN,bR]at e;obtain⟨v1,v2,v3⟩:=e.2 k g f;rcases n.cK b _ f with hold|⟨cs,T,B,rest,i,h,q,E,O,F,Q,R⟩
   ·exact(y hold).elim
   rw[v3 y];have K:Row P w aH β H ai g B:=bM.mono hi (fun _ _=>rfl) (cw.refl _ _) _ _ _ (n.refs b _ f) h;obtain⟨a,m,c,e1,e2,e3,e4,e5⟩:=jZ K off len v1;rw[x,BS,mi]at e2;have u:((z.drop off).take len).length=len:=by
    have:g.length=z.length:=by rw[x];simp
    simp;omega
   simp only[aF];refine⟨β.an b,off*ai,β.cap b-off,ai,m,e2,fun _=>j,?_,?_,?_,none,.inl rfl,?_⟩
   ·rw[<-e3];exact mb i (post:=c.flatten++rest) (by rw[q,e1];simp)
   ·intro hf;simp at hf;rw[u,F hf.1];omega
   ·rw[u];omega
   ·rw[u]
 |ptr b path=>
  simp only[mH]at d
  split at d
  case h_2=>simp at d
  rename_i fz t l
  split at d
  case h_2=>simp at d
  rename_i s hs;simp at d;obtain⟨rfl,rfl⟩:=d;have f:H[b]?=some (.box fz (.p t)):=by rw[al b s_];exact l
  have j:=r b s_;simp only[aD,bN,bR]at e;obtain⟨_,M,L,o,rfl,I,e⟩:=e;obtain⟨rfl,rfl⟩:=e (.inl ⟨fz,_,f⟩);obtain⟨cs,T,i,h,q,E⟩:=n.cK b _ f;have D:aZ P w aH t cs.toList:=by simp only[bn]at h;exact aZ.mono hi (fun _ _=>rfl) _ _ h
  obtain⟨pre,xs,post,e1,e2,e3⟩:=za D hs I;simp only[aF];refine⟨β.an b,L,xs,e3,j,?_,rfl⟩;rw[<-e2];exact mb i e1
 |map b=>
  simp only[mH]at d
  split at d
  case h_2=>simp at d
  rename_i fz g l;simp at d;obtain⟨rfl,rfl⟩:=d;have f:H[b]?=some (.map fz g):=by rw[al b s_];exact l
  have j:=r b s_;simp only[aD,bN,bR]at e;have e:=e.2.1 ⟨_,f,trivial⟩;obtain⟨C,clock,i,h,q⟩:=n.cK b _ f;simp only[aF];exact⟨β.an b,C,clock,j,i,cF.mono hi (fun _ _=>rfl) _ _ h,e⟩
 |cd=>simp[mH]at d
 |func=>simp[mH]at d
 |st=>simp[mH]at d
 |aE=>simp[mH]at d
theorem KD{w:ec}{ad aH ah:Nat->Prop}{β:Bd}{H0 H:aj}:∀{l:List AV}{vs:List PV}{bs:List Nat}{d:List dz},oH H0 l=some (vs,bs)->(∀b∈bs,H[b]?=H0[b]?)->b7 P w ad β H ah->bw P w ad β H l d->
 (∀k,ad k->aH k)->(∀b∈bs,aH (β.an b))->br P w aH vs d
 |[],vs,bs,d,h,_,_,c,_,_=>by
  simp[oH]at h;obtain⟨rfl,rfl⟩:=h;simp only[bw]at c;simpa[br]using c
 |a::l,vs,bs,d,h,al,f,c,hi,e=>by
  simp only[oH]at h
  split at h
  case h_2=>simp at h
  rename_i v m o n g i;simp at h;obtain⟨rfl,rfl⟩:=h;simp only[bw]at c;obtain⟨y,j,rfl,k1,k2⟩:=c;simp only[br];exact⟨y,j,rfl,YG g (fun b hx=>al b (by simp[hx])) f k1 hi (fun b hx=>e b (by simp[hx])),KD i (fun b hx=>al b (by simp[hx])) f k2 hi (fun b hx=>e b (by simp[hx]))⟩
def Act(P:dq)(n:Nat)(o:Oper)(s:St)(e:aY):Prop:=
 ∀(fr:ew)(k:List Item)(cs:List ew)(a:Array Oper)(i:Nat)(r:List Nat)(b:List e7)(ah ad:Nat->Prop)(β:Bd)(s':St)(t:Array dz)(w:ec),
  a[i]?=some o->hD o (yielded a t)=true->jc n o=true->cN P n ah ad β s' t w->(∀x∈o.op.operands,ev s'.env x=ev s.env x)->
  (∀p∈e.al,s'.heap[p.1]?=some p.2)->(∀j,j<e.aX.length->s'.heap[s.heap.length+j]?=some .hole)->
  ∃aH aM c w',fm P (lone (bB fr t b (.inRegion a (i::r)::k)) cs w) (lone (bB fr c b (.inRegion a r::k)) cs w')/\
   cN P n ah aH aM ⟨put o.dst e.v s'.env,bc s'.heap (e.aK++newAt s.heap.length e.aX)⟩ c w'/\∀N,dM N ah ad w β s'.heap ah aH w' aM (bc s'.heap (e.aK++newAt s.heap.length e.aX))
theorem U2{o:Oper}{K:aY->Prop}{s:St}(h:jz P ag o s K)(c:Call):o.op≠.defer c:=by
 intro hc;unfold jz at h;rw[hc]at h;simp[fG,hc]at h
theorem OV{e e':Env}{l:List dl}(h:∀x∈l,ev e' x=ev e x):l.map (ev e')=l.map (ev e):=j4 h
theorem LX{o:Oper}{f:dl}{H:Array dl}{am:Array dp}{g:eb}{fi ca:List AV}{K:aY->Prop}{s:St}
 (W:o.op=.call {callee:=.value f,args:=H,argTypes:=am})
 (hf:(ev s.env f=.func g fi ca)\/(∃a b,ev s.env f=.p (.func g a b)/\fi=a.map .p/\ca=b.map .p))
 (h:ir P g (fi++H.toList.map (ev s.env)++ca) s.heap K):
 ∃e,K e/\(∀p∈e.al,s.heap[p.1]?=some p.2)/\(∀p∈e.aK,p.1<s.heap.length/\p.2≠.hole)/\Act P n o s e:=by
 have Q:∀c,o.op≠.defer c:=fun c hc=>by rw[W]at hc;cases hc
 have ab:f∈o.op.operands/\∀x∈H.toList,x∈o.op.operands:=by
  rw[W];simp[hp,g0];exact fun x hx=>.inr hx
 have M:∀{ah ad:Nat->Prop}{β:Bd}{s':St}{t:Array dz}{w:ec},cN P n ah ad β s' t w->(∀x∈o.op.operands,ev s'.env x=ev s.env x)->
  ∃m:List dz,bw P w ad β s'.heap (fi++H.toList.map (ev s.env)++ca) m/\aV (aI s'.heap) (fi++H.toList.map (ev s.env)++ca)/\(ea (fH t) o).run P w=(callFunc g m.toArray).run P w:=by
  intro ah ad β s' t w d A;have I:=ov d f;rw[A f ab.1]at I;obtain⟨G,F,aw,av,ar,aA,az⟩:∃G F:List dz,fH t f=.func (.func g) G.toArray F.toArray/\bw P w ad β s'.heap fi G/\bw P w ad β s'.heap ca F/\aV (aI s'.heap) fi/\aV (aI s'.heap) ca:=by
   rcases hf with hf|⟨a,b,hf,rfl,rfl⟩
   ·rw[hf]at I;simp only[aD,aG]at I;obtain⟨⟨G,F,y,z,D⟩,S,ap⟩:=I;exact⟨G,F,D,y,z,S,ap⟩
   ·rw[hf]at I;simp only[aD,aF]at I;obtain⟨⟨G,F,y,z,D⟩,_⟩:=I;exact⟨G,F,D,jN.2 y,jN.2 z,iS _ _,iS _ _⟩
  obtain⟨Y,Z⟩:=vy d H.toList;rw[OV (fun x hx=>A x (ab.2 x hx))]at Y Z;refine⟨G++H.toList.map (fH t)++F,pj (pj av Y) ar,jY (jY aA Z) az,?_⟩;simp only[ea,W,resolve,aw,Deferred.ofValue,hK,hL,hH,invoke];congr 2;simp
 have ai:∀(fr:ew)(k:List Item)(cs:List ew)(l:Array Oper)(i:Nat)(r:List Nat)(u:List e7)(ah ad E:Nat->Prop)(β:Bd)(s':St)(t:Array dz)(w:ec)(H1:aj)(m:List dz)(vs:List PV)(v:PV),
  l[i]?=some o->hD o (yielded l t)=true->jc n o=true->cN P n ah ad β s' t w->(ea (fH t) o).run P w=(callFunc g m.toArray).run P w->
  bZ P ah ad w β s'.heap E w β H1->br P w E vs m->aB P g vs v->
  ∃aH aM ak w',fm P (lone (bB fr t u (.inRegion l (i::r)::k)) cs w) (lone (bB fr ak u (.inRegion l r::k)) cs w')/\
   cN P n ah aH aM ⟨put o.dst (.p v) s'.env,H1⟩ ak w'/\∀N,dM N ah ad w β s'.heap ah aH w' aM H1:=by
  intro fr k cs l i r u ah ad E β s' t w H1 m vs v q C B d O j af L;rcases L with⟨au,L⟩|L
  ·rw[au]at O;obtain⟨e,w',an,⟨R,aH,U,g1,g2,g3,g4,g5,ao,g6⟩,aN,ax,V⟩:=L w E _ j.rel.bS j.rel.jg af (bB fr t u (.inRegion l (i::r)::k)::cs);subst U;have ae:=j.trans (j.rel.later g1 g2 g3 g4 g5 ao);refine⟨aH,β,_,w',?_,d.put B ae (by simpa[aD]using g6) (by simp[aG]),fun _=>ae.fo⟩;rw[<-nL q];exact(hN (vm q C Q O)).trans (hO aN (.one (e8 V)))
  ·obtain⟨R,y,z⟩:=L w E _ af;rw[y]at O;exact⟨E,β,_,w,.one (tf q C Q O (.inl rfl)),d.put B j (by simpa[aD]using z) (by simp[aG]),fun _=>j.fo⟩
 rcases h with⟨vs,v,y,z,D⟩|⟨vs,bs,al,aK,v,y,z,D,S⟩|⟨e,X,ac,T⟩|⟨al,v,aq,ay,T⟩
 ·refine⟨_,D,s_,s_,?_⟩;intro fr k cs l i r u ah ad β s' t w q C B d A _ _;obtain⟨m,c1,c2,c3⟩:=M d A;rw[y]at c1;simp only[newAt,h2,bc];exact ai fr k cs l i r u ah ad ad β s' t w s'.heap m vs v q C B d c3 (bZ.refl d.heap) (jN.1 c1) z
 ·obtain⟨i1,i2,i3⟩:=KZ bs z;refine⟨_,S,i1,i2,?_⟩;intro fr k cs l i r u ah ad β s' t w q C B d A J _;obtain⟨m,c1,c2,c3⟩:=M d A;obtain⟨E,ag,aC⟩:=Jq bs z d.heap (fun p j=>⟨p.2,J p j,rfl⟩);simp only[newAt,h2];refine ai fr k cs l i r u ah ad E β s' t w _ m vs v q C B d c3 ag (KD y ?_ d.heap c1 ag.bS aC) D;intro b aa;rw[<-i3]at aa;obtain⟨p,j,rfl⟩:=kp.1 aa;rw[J p j,i1 p j]
 ·refine⟨_,T,ac.1,ac.2,?_⟩;intro fr k cs l i r u ah ad β s' t w q C B d A J aX;obtain⟨m,c1,c2,c3⟩:=M d A;rw[X.1]at c3;obtain⟨x,w',an,⟨R,aM,aH,U,g1,g2,g3⟩,aN,ax,V⟩:=X.2 s'.heap w ad ah β _ d.heap c1 c2 J aX (bB fr t u (.inRegion l (i::r)::k)::cs);subst U;refine⟨aH,aM,_,w',?_,d.put B g1 g2 g3,fun _=>g1.fo⟩;rw[<-nL q];exact(hN (vm q C Q c3)).trans (hO aN (.one (e8 V)))
 ·refine⟨_,T,ay,s_,?_⟩;intro fr k cs l i r u ah ad β s' t w q C B d A J aX;obtain⟨m,c1,c2,c3⟩:=M d A;obtain⟨R,y,D⟩:=aq s'.heap w ad ah β _ d.heap c1 c2 J;rw[y]at c3;have j:=bZ.refl d.heap;simp only[newAt,h2,bc];exact⟨ad,β,_,w,.one (tf q C Q c3 (.inl rfl)),d.put B j (by simpa[aD]using D) (by simp[aG]),fun _=>j.fo⟩
theorem WI{o:Oper}{f:dl}{a:Array dl}{y:Array dp}{b:Nat}{e:aY}{s:St}
 (j:o.op=.call {callee:=.value f,args:=a,argTypes:=y})(hf:ev s.env f=.map b)(hY:oI P b (a.toList.map (ev s.env)) s.heap.length e):Act P n o s e:=by
 have G:∀c,o.op≠.defer c:=fun c hc=>by rw[j]at hc;cases hc
 have u:f∈o.op.operands/\∀x∈a.toList,x∈o.op.operands:=by
  rw[j];simp[hp,g0];exact fun x hx=>.inr hx
 intro fr k cs I i r z ah ad β s' t w v H C d m E aX;have h:=(ov d f).1;rw[m f u.1,hf]at h;simp only[aD,bN,bR]at h;obtain⟨l,p⟩:=vy d a.toList;rw[OV (fun x hx=>m x (u.2 x hx))]at l p;obtain⟨F,g,tmps,assign,body,A,B⟩:=hY s'.heap w ad ah β _ d.heap l p E aX;have D:=h.2.2 F;have q:(ea (fH t) o).run P w=(Instr.yield (β.an b) (a.toList.map (fH t)).toArray).run P w:=by
  simp only[ea,j,resolve,D,Deferred.ofValue,hK,hL,hH,invoke];congr 2;exact cb s_
 rw[A]at q;obtain⟨J,w',aM,aH,g1,g2,g3,g4⟩:=B (bB fr t z (.inRegion I (i::r)::k)) cs;refine⟨aH,aM,_,w',?_,d.put C g2 g3 g4,fun _=>g2.fo⟩;rw[<-nL v];exact(hN (JQ v H G q)).trans g1
theorem XE(m:l8 P ag){o:Oper}{K:aY->Prop}{s:St}(h:jz P ag o s K):
 ∃e,K e/\(∀p∈e.al,s.heap[p.1]?=some p.2)/\(∀p∈e.aK,p.1<s.heap.length/\p.2≠.hole)/\Act P n o s e:=by
 have E:=U2 h;have q:fG P ag o (ev s.env) s.heap K->∃e,K e/\(∀p∈e.al,s.heap[p.1]?=some p.2)/\(∀p∈e.aK,p.1<s.heap.length/\p.2≠.hole)/\Act P n o s e:=by
  intro h;obtain⟨e,a,hs,al,aK⟩:=m o _ _ _ (fun v=>rfl) h;refine⟨e,a,al,aK,?_⟩;intro fr k cs L i r J ah ad β s' t w F G C d B D aX;obtain⟨nx,I,w',aM,aH,u,y,j,z,A⟩:=hs s'.heap w ad ah β (fH t) d.heap (fun x hx=>by rw[<-B x hx];exact ov d x) D aX;exact⟨aH,aM,_,w',.one (tf F G E u y),d.put C j z A,fun _=>j.fo⟩
 unfold jz at h
 split at h
 ·rename_i f args H c
  split at h
  ·rename_i g fi ca hf;exact LX c (.inr ⟨fi,ca,hf,rfl,rfl⟩) h
  ·rename_i g fi ca hf;exact LX c (.inl hf) h
  ·rename_i b hf;obtain⟨e,hY,l,a⟩:=h;exact⟨e,a,l.1,l.2,WI c hf hY⟩
  ·exact h.elim
 ·exact q h
end
section
variable{P:dq}{ag:eb->Bool}{n:Nat}
def looks(a:Array Oper)(o:Oper):List Tmp:=
 (o.op.operands.toList.filterMap fun x=>match x with
  | .tmp t=>some t
  |_=>none)++(match o.guard with
  |some (j,_)=>(match(a[j]?).bind (·.dst)with
   |some d=>[d]
   |none=>[])
  |none=>[])
def qZ(c:Array Oper)(a b:Oper):Bool:=
 (match a.dst with
  |some d=>(looks c b).contains d||b.dst==some d
  |none=>false)||
 (match b.dst with
  |some d=>(looks c a).contains d
  |none=>false)
def fit(_:Nat)(a:Array Oper):Bool:=
 (i9 a.size).all fun j=>match a[j]? with
  |some o=>o.after.toList.all (fun e=>!hE .any e||decide (e.on<j))&&
   (i9 j).all (fun i=>match a[i]? with
    |some u=>!qZ a u o||reach a a.size i j
    |none=>true)
  |none=>true
structure D8(P:dq)(n:Nat)(ops:Array Oper)(o:Oper)(s:St)(e:aY):Prop where
 al:∀p∈e.al,s.heap[p.1]?=some p.2
 aK:∀p∈e.aK,p.1<s.heap.length
 act:(∀(t:Array dz)(s':St)(ah ad:Nat->Prop)(β:Bd)(w:ec),cN P n ah ad β s' t w->(∀x∈looks ops o,aP s'.env x=aP s.env x)->hD o (yielded ops t)=true)/\Act P n o s e\/
  (∀(t:Array dz)(s':St)(ah ad:Nat->Prop)(β:Bd)(w:ec),cN P n ah ad β s' t w->(∀x∈looks ops o,aP s'.env x=aP s.env x)->hD o (yielded ops t)=false)/\e={v:=.p (.aE [])}
inductive Tr(P:dq)(n:Nat)(ops:Array Oper):List Oper->Nat->St->List (St×aY)->St->Prop
 |nil (i:Nat) (s:St):Tr P n ops [] i s [] s
 |cons {o:Oper} {r:List Oper} {i:Nat} {s s':St} {e:aY} {es:List (St×aY)}:D8 P n ops o s e->Tr P n ops r (i+1) (e.app o.dst s) es s'->Tr P n ops (o::r) i s ((s,e)::es) s'
def pG(i:Nat):List (St×aY)->List Touch->List Touch
 |[],acc=>acc
 |(s,e)::r,acc=>pG (i+1) r (gl i s.heap.length e acc)
theorem BR{a:Array Oper}{o:Oper}{j:Nat}{f:Bool}(c:o.guard=some (j,f)){e e':Env}(h:∀x∈looks a o,aP e' x=aP e x):guardOf a j e'=guardOf a j e:=by
 unfold guardOf;cases b:(a[j]?).bind (·.dst)with
 |none=>rfl
 |some d=>
  simp only;exact h d (by simp[looks,c,b])
theorem Ll(B:l8 P ag){a:Array Oper}(q:∀o∈a.toList,jc n o=true):∀(l:List Oper)(i:Nat)(d:List Touch)(s:St){K:St->Prop},(∀o∈l,o∈a.toList)->gD P ag a l i d K s->
 ∃c s',Tr P n a l i s c s'/\K s'/\iJ a (pG i c d)=true
 |[],i,d,s,K,_,h=>⟨[],s,.nil i s,h.2,h.1⟩
 |o::l,i,d,s,K,F,h=>by
  have C:=fun d s(h:gD P ag a l (i+1) d K s)=>Ll B q l (i+1) d s (fun o G=>F o (by simp[G])) h
  have skip:gD P ag a l (i+1) d K ⟨put o.dst (.p (.aE [])) s.env,s.heap⟩->(∀(t:Array dz)(s':St)(ah ad:Nat->Prop)(β:Bd)(w:ec),cN P n ah ad β s' t w->(∀x∈looks a o,aP s'.env x=aP s.env x)->hD o (yielded a t)=false)->
   ∃c s',Tr P n a (o::l) i s c s'/\K s'/\iJ a (pG i c d)=true:=by
   intro hk A;obtain⟨c,s',r,u,y⟩:=C _ _ hk;refine⟨(s,{v:=.p (.aE [])})::c,s',.cons ⟨s_,s_,.inr ⟨A,rfl⟩⟩ ?_,u,by simpa[pG,gl]using y⟩;simpa[aY.app,bc]using r
  have go:jz P ag o s (fun e=>gD P ag a l (i+1) (gl i s.heap.length e d) K (e.app o.dst s))->(∀(t:Array dz)(s':St)(ah ad:Nat->Prop)(β:Bd)(w:ec),cN P n ah ad β s' t w->(∀x∈looks a o,aP s'.env x=aP s.env x)->hD o (yielded a t)=true)->
   ∃c s',Tr P n a (o::l) i s c s'/\K s'/\iJ a (pG i c d)=true:=by
   intro hk A;obtain⟨e,D,al,aK,E⟩:=XE (n:=n) B hk;obtain⟨c,s',r,u,y⟩:=C _ _ D;exact⟨(s,e)::c,s',.cons ⟨al,fun p H=>(aK p H).1,.inl ⟨A,E⟩⟩ r,u,by simpa[pG]using y⟩
  simp only[gD]at h
  split at h
  ·rename_i f;exact go h (fun _ _ _ _ _ _ _ _=>by simp[hD,f])
  ·rename_i j I f
   split at h
   ·rename_i b m
    split at h
    ·rename_i z;refine go h (fun t s' ah ad β w k g=>?_);obtain⟨g1,g2⟩:=yu k q j;rw[BR f g]at g1;simp[hD,f,g1 _ m,z]
    ·rename_i z;refine skip h (fun t s' ah ad β w k g=>?_);obtain⟨g1,g2⟩:=yu k q j;rw[BR f g]at g1;simp[hD,f,g1 _ m,z]
   ·rename_i m;refine skip h (fun t s' ah ad β w k g=>?_);obtain⟨g1,g2⟩:=yu k q j;rw[BR f g]at g2;simp[hD,f,g2 m]
   ·exact h.elim
def wD(a:Array Oper)(D:Nat->Prop):Prop:=∀j o,a[j]?=some o->D j->∀e∈o.after,hE .any e=true->D e.on
theorem B8{c:Array Oper}{D:Nat->Prop}(hc:wD c D):∀(f i j:Nat),reach c f i j=true->(∀o,c[j]?=some o->∀e∈o.after,hE .any e=true->D e.on)->D i
 |0,_,_,h,_=>by simp[reach]at h
 |f+1,i,j,h,d=>by
  simp only[reach]at h
  split at h
  case h_2=>simp at h
  rename_i o g;simp only[db,i0,da,beq_iff_eq,decide_eq_true_eq]at h;rcases h with⟨e,b,a,rfl⟩|⟨e,b,⟨a,_⟩,k⟩
  ·exact d o g e (by simpa using b) a
  ·have m:=d o g e (by simpa using b) a;exact B8 hc f i e.on k (fun o' p e' n l=>hc _ o' p m e' n l)
end
section
variable{P:dq}{ag:eb->Bool}{n:Nat}
theorem tv(a:Nat)(l:List Obj):(newAt a l).map (·.1)=oi a l:=by
 induction l generalizing a with
 |nil=>rfl
 |cons o l b=>simp[newAt,oi,b]
theorem IY{a b:Nat}{l:List Obj}:b∈oi a l↔a<=b/\b<a+l.length:=by
 induction l generalizing a with
 |nil=>simp[oi]
 |cons o l c=>simp only[oi,h3,c,List.length_cons];omega
theorem yD{l:List (Nat×Obj)}{b:Nat}(h:b∉l.map (·.1)):∀H:aj,(bc H l)[b]?=H[b]?:=by
 induction l with
 |nil=>intro H;rfl
 |cons p l a=>
  obtain⟨c,o⟩:=p;intro H;simp only[h0,h3,not_or]at h;simp only[bc];rw[a h.2,h7 (ll h.1)]
theorem Wg{l:List (Nat×Obj)}{b:Nat}(h:b∈l.map (·.1)):∀H H':aj,H.length=H'.length->(bc H l)[b]?=(bc H' l)[b]?:=by
 induction l with
 |nil=>simp at h
 |cons p l f=>
  obtain⟨c,o⟩:=p;intro H H' d;simp only[bc]
  by_cases a:b∈l.map (·.1)
  ·exact f a _ _ (by simp[d])
  ·rw[yD a,yD a];simp only[h0,h3]at h;have:b=c:=h.resolve_right a;subst this
   by_cases e:b<H.length
   ·rw[hW e,hW o_]
   ·rw[j1 (by simp;omega),j1 (by simp;omega)]
def de(es:List (St×aY))(s':St)(k:Nat):St:=match es[k]? with
 |some (s,_)=>s
 |none=>s'
def fI(es:List (St×aY))(k:Nat):aY:=match es[k]? with
 |some (_,e)=>e
 |none=>{v:=.p .undef}
theorem Tr.at{a:Array Oper}:∀{l:List Oper}{i:Nat}{s s':St}{es:List (St×aY)},Tr P n a l i s es s'->es.length=l.length/\de es s' 0=s/\
 ∀k o,l[k]?=some o->D8 P n a o (de es s' k) (fI es k)/\de es s' (k+1)=(fI es k).app o.dst (de es s' k)
 |_,_,_,_,_,.nil i s=>⟨rfl,rfl,fun k o h=>by simp at h⟩
 |_,_,_,_,_,.cons (o:=o) (r:=r) (i:=i) (s:=s) (s':=s') (e:=e) (es:=es) hi d=>by
  obtain⟨h1,b,c⟩:=d.at;refine⟨by simp[h1],rfl,fun k o' hk=>?_⟩;cases k with
  |zero=>
   simp at hk;subst hk;refine⟨by simpa[de,fI]using hi,?_⟩;have:de ((s,e)::es) s' (0+1)=de es s' 0:=by simp[de]
   rw[this,b];simp[de,fI]
  |succ k=>
   have e1:∀m,de ((s,e)::es) s' (m+1)=de es s' m:=fun m=>by simp[de]
   have e2:fI ((s,e)::es) (k+1)=fI es k:=by simp[fI]
   rw[e1,e1,e2];exact c k o' (by simpa using hk)
theorem Vc(u:Touch)(i:Nat):jv u ⟨i,[],[]⟩=false:=by
 simp[jv]
theorem UR(i b:Nat)(e:aY)(a:List Touch):(gl i b e a=a/\ia i b e=⟨i,[],[]⟩)\/gl i b e a=ia i b e::a:=by
 unfold gl
 split
 ·rename_i c d f;exact .inl ⟨rfl,by simp[ia,c,d,f,oi]⟩
 ·exact .inr rfl
theorem JP{c:Array Oper}:∀(g:List (St×aY))(i:Nat)(d:List Touch),iJ c (pG i g d)=true->iJ c d=true/\
 (∀u∈d,∀b s e,g[b]?=some (s,e)->jv u (ia (i+b) s.heap.length e)=true->reach c c.size u.i (i+b)=true)/\
 (∀a b s e f e2,a<b->g[a]?=some (s,e)->g[b]?=some (f,e2)->jv (ia (i+a) s.heap.length e) (ia (i+b) f.heap.length e2)=true->reach c c.size (i+a) (i+b)=true)
 |[],i,d,h=>⟨h,s_,s_⟩
 |(s,e)::g,i,d,h=>by
  simp only[pG]at h;obtain⟨j,m,r⟩:=JP g (i+1) _ h
  have key:iJ c d=true/\(∀u∈d,jv u (ia i s.heap.length e)=true->reach c c.size u.i i=true)/\(∀u∈d,∀b s e,g[b]?=some (s,e)->jv u (ia (i+1+b) s.heap.length e)=true->reach c c.size u.i (i+1+b)=true)/\
   (∀b f e2,g[b]?=some (f,e2)->jv (ia i s.heap.length e) (ia (i+1+b) f.heap.length e2)=true->reach c c.size i (i+1+b)=true):=by
   rcases UR i s.heap.length e d with⟨o,q⟩|o
   ·rw[o]at j m;refine⟨j,fun u _ hc=>?_,m,fun b f e2 _ hc=>?_⟩
    ·rw[q,Vc]at hc;cases hc
    ·rw[q]at hc;simp[jv]at hc
   ·rw[o]at j m;simp only[iJ,da,ik]at j;refine⟨j.2,fun u l hc=>?_,fun u l=>m u (by simp[l]),m _ s_⟩;have:=j.1 u l;rw[hc]at this;exact(by simpa using this:reach c c.size u.i (ia i s.heap.length e).i=true)
  obtain⟨k1,k2,k3,k4⟩:=key;refine⟨k1,?_,?_⟩
  ·intro u l b p e1 k hc;cases b with
   |zero=>simp at k;obtain⟨rfl,rfl⟩:=k;exact k2 u l hc
   |succ b=>
    have:=k3 u l b p e1 (by simpa using k);rw[show i+(b+1)=i+1+b by omega]at hc⊢;exact this hc
  ·intro a b p e1 f e2 t n k hc;cases b with
   |zero=>omega
   |succ b=>
    rw[show i+(b+1)=i+1+b by omega]at hc⊢;cases a with
    |zero=>
     simp at n;obtain⟨rfl,rfl⟩:=n;exact k4 b f e2 (by simpa using k) hc
    |succ a=>
     rw[show i+(a+1)=i+1+a by omega]at hc⊢;exact r a b p e1 f e2 o_ (by simpa using n) (by simpa using k) hc
end
section
variable{P:dq}{ag:eb->Bool}{n:Nat}
def hx(N:Nat)(s:St):aj:=s.heap++hZ (N-s.heap.length) .hole
def uQ(a:Nat)(e:aY):List Nat:=(e.aK++newAt a e.aX).map (·.1)
theorem azk{N:Nat}{s:St}{e:aY}{o:Oper}(aK:∀p∈e.aK,p.1<s.heap.length)(d:(e.app o.dst s).heap.length<=N):hx N (e.app o.dst s)=bc (hx N s) (e.aK++newAt s.heap.length e.aX):=by
 have b:(e.app o.dst s).heap=bc s.heap e.aK++e.aX:=rfl;have f:(e.app o.dst s).heap.length=s.heap.length+e.aX.length:=by rw[b];simp[pg]
 unfold hx;rw[b];have c:N-s.heap.length=e.aX.length+(N-(s.heap.length+e.aX.length)):=o_
 rw[c,<-List.replicate_append_replicate,<-ix,ye _ _ _ (by
  intro p a;rcases jF.1 a with a|a
  ·have:=aK p a;simp;omega
  ·have:p.1∈(newAt s.heap.length e.aX).map (·.1):=kc a
   rw[tv,IY]at this;simp;omega)]
 rw[vg,ye _ _ _ aK];have:=B7 (bc s.heap e.aK) e.aX;rw[pg]at this;rw[this];congr 2;simp[pg]
section sched
variable{ops:Array Oper}{es:List (St×aY)}{s0 s':St}
structure jd(P:dq)(n:Nat)(ops:Array Oper)(es:List (St×aY))(s':St):Prop where
 len:es.length=ops.size
 at_:∀k o,ops[k]?=some o->D8 P n ops o (de es s' k) (fI es k)/\de es s' (k+1)=(fI es k).app o.dst (de es s' k)
 dst:∀o∈ops.toList,jc n o=true
 lower:∀j o,ops[j]?=some o->∀e∈o.after,hE .any e=true->e.on<j
 tmps:∀i j u o,i<j->ops[i]?=some u->ops[j]?=some o->qZ ops u o=true->reach ops ops.size i j=true
 heap:∀i j,i<j->j<ops.size->jv (ia i (de es s' i).heap.length (fI es i)) (ia j (de es s' j).heap.length (fI es j))=true->reach ops ops.size i j=true
def wr(a:List (St×aY))(s':St)(i:Nat):List Nat:=uQ (de a s' i).heap.length (fI a i)
structure At(ops:Array Oper)(es:List (St×aY))(s':St)(D:Nat->Prop)(s:St):Prop where
 tmp:∀x,∃k,k<=ops.size/\aP s.env x=aP (de es s' k).env x/\∀i o,ops[i]?=some o->o.dst=some x->(D i↔i<k)
 len:s.heap.length=s'.heap.length
 heap:∀b,∃k,k<=ops.size/\s.heap[b]?=(hx s'.heap.length (de es s' k))[b]?/\∀i,i<ops.size->b∈wr es s' i->(D i↔i<k)
variable(h:jd P n ops es s')
include h
theorem jd.mono:∀{k m:Nat},k<=m->m<=ops.size->(de es s' k).heap.length<=(de es s' m).heap.length:=by
 intro k m e f
 induction m with
 |zero=>
  obtain rfl:k=0:=o_
  exact kv _
 |succ m c=>
  by_cases hk:k=m+1
  ·subst hk;exact kv _
  ·have d:=c o_ o_;have b:ops[m]?=some ops[m]:=b5 o_;obtain⟨_,a⟩:=h.at_ m _ b;rw[a];simp only[aY.app,hX,pg];omega
theorem jd.last:de es s' ops.size=s':=by
 have:es[ops.size]?=none:=j1 (by rw[h.len];exact kv _);simp[de,this]
theorem jd.xd{k:Nat}(hk:k<=ops.size):(de es s' k).heap.length<=s'.heap.length:=by
 have:=h.mono hk (kv _)
 rwa [h.last]at this
theorem jd.im{k:Nat}(hk:k<ops.size):hx s'.heap.length (de es s' (k+1))=bc (hx s'.heap.length (de es s' k)) ((fI es k).aK++newAt (de es s' k).heap.length (fI es k).aX):=by
 have c:ops[k]?=some ops[k]:=b5 hk;obtain⟨h1,b⟩:=h.at_ k _ c;have a:=h.xd (k:=k+1) hk;rw[b]at a⊢;exact azk h1.aK a
theorem azj{k:Nat}(hk:k<=ops.size):(hx s'.heap.length (de es s' k)).length=s'.heap.length:=by
 have:=h.xd hk;simp[hx];omega
theorem jd.Lm{x:Nat}:∀{k m:Nat},k<=m->m<=ops.size->(∀i o,k<=i->i<m->ops[i]?=some o->o.dst≠some x)->aP (de es s' m).env x=aP (de es s' k).env x:=by
 intro k m j
 induction m with
 |zero=>
  intro _ _;obtain rfl:k=0:=o_
  rfl
 |succ m g=>
  intro l d
  by_cases hk:k=m+1
  ·subst hk;rfl
  ·have e:=g o_ o_ (fun i o a b=>d i o a o_);have c:ops[m]?=some ops[m]:=b5 o_;obtain⟨_,f⟩:=h.at_ m _ c;rw[f];simp only[aY.app,vw];rw[if_neg (d m _ o_ o_ c)];exact e
theorem jd.KS{b:Nat}:∀{k m:Nat},k<=m->m<=ops.size->(∀i,k<=i->i<m->b∉wr es s' i)->(hx s'.heap.length (de es s' m))[b]?=(hx s'.heap.length (de es s' k))[b]?:=by
 intro k m f
 induction m with
 |zero=>
  intro _ _;obtain rfl:k=0:=o_
  rfl
 |succ m e=>
  intro g c
  by_cases hk:k=m+1
  ·subst hk;rfl
  ·have d:=e o_ o_ (fun i a b=>c i a o_);rw[h.im o_,yD (c m o_ o_)];exact d
theorem jd.ME{x:Nat}{k m:Nat}(hk:k<=ops.size)(g:m<=ops.size)(f:∀i o,ops[i]?=some o->o.dst=some x->(i<k↔i<m)):aP (de es s' m).env x=aP (de es s' k).env x:=by
 rcases lk k m with d|d
 ·exact h.Lm d g fun i o a b e c=>by have:=f i o e c;omega
 ·exact(h.Lm d hk fun i o a b e c=>by have:=f i o e c;omega).symm
theorem jd.Mp{b:Nat}{k m:Nat}(hk:k<=ops.size)(g:m<=ops.size)(f:∀i,i<ops.size->b∈wr es s' i->(i<k↔i<m)):(hx s'.heap.length (de es s' m))[b]?=(hx s'.heap.length (de es s' k))[b]?:=by
 rcases lk k m with e|e
 ·exact h.KS e g fun i a c d=>by have:=f i o_ d;omega
 ·exact(h.KS e hk fun i a c d=>by have:=f i o_ d;omega).symm
variable{D:Nat->Prop}(hc:wD ops D)
include hc
theorem jd.order{i:Nat}{o:Oper}(k:ops[i]?=some o)(h:¬D i)(l:∀e∈o.after,hE .any e=true->D e.on):
 (∀j,j<i->reach ops ops.size j i=true->D j)/\(∀j,j<ops.size->i<j->reach ops ops.size i j=true->¬D j):=by
 constructor
 ·intro j g b;exact B8 hc _ _ _ b (fun o' a=>by rw[k]at a;cases a;exact l)
 ·intro j m g b d;exact h (B8 hc _ _ _ b (fun o' a e f c=>hc j o' a d e f c))
theorem jd.reads{i:Nat}{o:Oper}(l:ops[i]?=some o)(q:¬D i)(y:∀e∈o.after,hE .any e=true->D e.on){s:St}(t:At ops es s' D s):
 (∀x∈looks ops o,aP s.env x=aP (de es s' i).env x)/\(∀b,b∈(fI es i).al.map (·.1)\/b∈wr es s' i->s.heap[b]?=(hx s'.heap.length (de es s' i))[b]?):=by
 obtain⟨v,w⟩:=h.order hc l q y;have hi:i<ops.size:=(b4.1 l).1;constructor
 ·intro x hx;obtain⟨k,k1,k2,k3⟩:=t.tmp x;rw[k2];refine h.ME o_ k1 fun j u m p=>?_;have g:j<ops.size:=(b4.1 m).1;rw[<-k3 j u m p];constructor
  ·intro a;refine v j a (h.tmps j i u o a m l ?_);simp[qZ,p,hx]
  ·intro f;rcases kC j i with a|rfl|a
   ·exact a
   ·exact(q f).elim
   ·exact(w j g a (h.tmps i j o u a l m (by simp[qZ,p,hx])) f).elim
 ·intro b c;obtain⟨k,k1,k2,k3⟩:=t.heap b;rw[k2];refine h.Mp o_ k1 fun j g n=>?_;rw[<-k3 j g n];have r:b∈(ia j (de es s' j).heap.length (fI es j)).wr:=by
   unfold wr uQ at n;rw[h9,tv]at n;exact n
  have d:b∈(ia i (de es s' i).heap.length (fI es i)).rd\/b∈(ia i (de es s' i).heap.length (fI es i)).wr:=by
   rcases c with c|c
   ·exact .inl c
   ·unfold wr uQ at c;rw[h9,tv]at c;exact .inr c
  constructor
  ·intro a;refine v j a (h.heap j i a hi ?_);simp only[jv,db,i0,iz];exact .inl ⟨b,r,d⟩
  ·intro f;rcases kC j i with a|rfl|a
   ·exact a
   ·exact(q f).elim
   ·refine(w j g a (h.heap i j a g ?_) f).elim;simp only[jv,db,i0,iz];rcases d with d|d
    ·exact .inr ⟨b,d,r⟩
    ·exact .inl ⟨b,d,.inr r⟩
theorem jd.next{i:Nat}{o:Oper}(l:ops[i]?=some o)(z:¬D i)(A:∀e∈o.after,hE .any e=true->D e.on){s:St}(p:At ops es s' D s):
 At ops es s' (fun j=>D j\/j=i) ⟨put o.dst (fI es i).v s.env,bc s.heap ((fI es i).aK++newAt (de es s' i).heap.length (fI es i).aX)⟩:=by
 obtain⟨w,y⟩:=h.order hc l z A;have hi:i<ops.size:=(b4.1 l).1;obtain⟨B,im⟩:=h.at_ i o l;refine⟨fun x=>?_,by simp only[pg];exact p.len,fun b=>?_⟩
 ·by_cases hx:o.dst=some x
  ·refine⟨i+1,hi,?_,fun j u d n=>?_⟩
   ·rw[im];simp[aY.app,vw,hx]
   ·have g:j<ops.size:=(b4.1 d).1;constructor
    ·rintro(c|rfl)
     ·rcases kC j i with a|rfl|a
      ·omega
      ·omega
      ·exact(y j g a (h.tmps i j o u a l d (by simp[qZ,n,hx])) c).elim
     ·omega
    ·intro a
     by_cases q:j=i
     ·exact .inr q
     ·exact .inl (w j o_ (h.tmps j i u o o_ d l (by simp[qZ,n,hx])))
  ·obtain⟨k,k1,k2,k3⟩:=p.tmp x;refine⟨k,k1,?_,fun j u d n=>?_⟩
   ·simp only[vw];rw[if_neg hx];exact k2
   ·rw[<-k3 j u d n];constructor
    ·rintro(c|rfl)
     ·exact c
     ·rw[l]at d;cases d;exact(hx n).elim
    ·exact .inl
 ·by_cases f:b∈wr es s' i
  ·refine⟨i+1,hi,?_,fun j g m=>?_⟩
   ·rw[h.im hi];exact Wg f _ _ (by rw[azj h o_];exact p.len)
   ·have t:b∈(ia j (de es s' j).heap.length (fI es j)).wr:=by
     unfold wr uQ at m;rw[h9,tv]at m;exact m
    have r:b∈(ia i (de es s' i).heap.length (fI es i)).wr:=by
     unfold wr uQ at f;rw[h9,tv]at f;exact f
    constructor
    ·rintro(c|rfl)
     ·rcases kC j i with a|rfl|a
      ·omega
      ·omega
      ·refine(y j g a (h.heap i j a g ?_) c).elim;simp only[jv,db,i0,iz];exact .inl ⟨b,r,.inr t⟩
     ·omega
    ·intro a
     by_cases q:j=i
     ·exact .inr q
     ·refine .inl (w j o_ (h.heap j i o_ hi ?_));simp only[jv,db,i0,iz];exact .inl ⟨b,t,.inr r⟩
  ·obtain⟨k,k1,k2,k3⟩:=p.heap b;refine⟨k,k1,?_,fun j g m=>?_⟩
   ·simp only;rw[yD f];exact k2
   ·rw[<-k3 j g m];constructor
    ·rintro(c|rfl)
     ·exact c
     ·exact(f m).elim
    ·exact .inl
end sched
end
section
variable{P:dq}{ag:eb->Bool}{n:Nat}
variable{ops:Array Oper}{es:List (St×aY)}{s':St}
theorem cN.congr{ah ad:Nat->Prop}{β:Bd}{s u:St}{t:Array dz}{w:ec}(h:cN P n ah ad β s t w)(b:∀x,aP u.env x=aP s.env x)(a:u.heap=s.heap):cN P n ah ad β u t w:=by
 refine⟨by rw[a];exact h.heap,fun x=>?_,fun x=>?_,h.size⟩
 ·rw[b,a];exact h.env x
 ·rw[b,a];exact h.gR x
theorem cN.qd{ah ad:Nat->Prop}{β:Bd}{s:St}{t:Array dz}{w:ec}(m:Nat)(h:cN P n ah ad β s t w):cN P n ah ad β ⟨s.env,s.heap++hZ m .hole⟩ t w:=
 ⟨h.heap.qd m,fun x=>aD.mono (fun _ x=>x) (fun _ _=>rfl) (qL β s.heap m) _ _ (h.gR x) (h.env x),fun x=>aG.mono (nX _ _) _ (h.gR x),h.size⟩
theorem X6{o:Oper}{e e':Env}(h:∀x∈looks ops o,aP e' x=aP e x):∀x∈o.op.operands,ev e' x=ev e x:=by
 intro x hx;cases x with
 |tmp t=>
  simp only[ev];refine h t ?_;simp only[looks,jF,List.mem_filterMap];exact .inl ⟨.tmp t,by simpa using hx,rfl⟩
 |_=>rfl
theorem jd.run(h:jd P n ops es s'){D:Nat->Prop}(hc:wD ops D){i:Nat}{o:Oper}(a:ops[i]?=some o)(x:¬D i)(z:∀e∈o.after,hE .any e=true->D e.on){s:St}(m:At ops es s' D s)
 {fr:ew}{k:List Item}{cs:List ew}{r:List Nat}{ds:List e7}{ah ad:Nat->Prop}{β:Bd}{t:Array dz}{w:ec}(b:cN P n ah ad β s t w):
 ∃u aH aM d w',fm P (lone (bB fr t ds (.inRegion ops (i::r)::k)) cs w) (lone (bB fr d ds (.inRegion ops r::k)) cs w')/\cN P n ah aH aM u d w'/\(∀N,dM N ah ad w β s.heap ah aH w' aM u.heap)/\At ops es s' (fun j=>D j\/j=i) u:=by
 obtain⟨g,A⟩:=h.reads hc a x z m;have hi:i<ops.size:=(b4.1 a).1;obtain⟨v,_⟩:=h.at_ i o a;have c:=h.next hc a x z m;have q:jc n o=true:=h.dst o (by rw[Array.mem_toList_iff];exact Array.mem_of_getElem? a);have G:=h.xd (k:=i) o_;rcases v.act with⟨f,B⟩|⟨f,C⟩
 ·obtain⟨aH,aM,d,w',a1,a2,a3⟩:=B fr k cs ops i r ds ah ad β s t w a (f t s ah ad β w b g) q b (X6 g) (by
   intro p y;rw[A p.1 (.inl (kc y))];have:=v.al p y;unfold hx;rw[i6 (hV.1 this).1];exact this) (by
   intro j F;have E:(de es s' i).heap.length+j∈wr es s' i:=by
    unfold wr uQ;rw[h9,tv];exact List.mem_append_right _ (IY.2 ⟨o_,o_⟩)
   rw[A _ (.inr E)];have l:=h.xd (k:=i+1) o_;rw[(h.at_ i o a).2]at l;simp only[aY.app,hX,pg]at l;unfold hx;rw[lJ,if_neg o_,if_pos o_])
  exact⟨_,aH,aM,d,w',a1,a2,a3,c⟩
 ·rw[C]at c;simp only[newAt,h2,bc]at c;exact⟨_,ad,β,_,w,.one (Kq a (f t s ah ad β w b g)),b.put q (bZ.refl b.heap) (by simp[aD,aF,br,undef]) (by simp[aG]),fun _=>dM.refl _ _ _ _ _ _,c⟩
def isDone(a:Array Bool)(i:Nat):Prop:=a.getD i false=true
theorem JB{p:Nat->Bool}{i:Nat}:∀{l:List Nat},l.Nodup->i∈l->p i=true->l.countP p=l.countP (fun x=>p x&&x !=i)+1
 |[],_,h,_=>by simp at h
 |a::l,c,h,d=>by
  rw[List.nodup_cons]at c
  by_cases b:a=i
  ·subst b;have e:l.countP (fun x=>p x&&x !=a)=l.countP p:=by
    refine kd fun x hx=>?_;have:x≠a:=fun e=>c.1 (e▸hx);simp[this]
   simp[d,e]
  ·have f:i∈l:=by
    rcases h3.1 h with h|h
    ·exact(b h.symm).elim
    ·exact h
   have g:=JB c.2 f d;rw[kh,kh,g];have:(a !=i)=true:=by simpa using b
   simp only[this,Bool.and_true];omega
def left(b:Array Oper)(a:Array Bool):Nat:=(i9 b.size).countP fun i=>!a.getD i true
theorem jd.goes(h:jd P n ops es s'){fr:ew}{k:List Item}{cs:List ew}{ds:List e7}{ah:Nat->Prop}:∀(c b:Nat)(a:Array Bool)(s:St)(ad:Nat->Prop)(β:Bd)(t:Array dz)(w:ec),a.size=ops.size->left ops a<=c->wD ops (isDone a)->
 At ops es s' (isDone a) s->cN P n ah ad β s t w->
 ∃u D aH aM R w',fm P (lone (bB fr t ds (.inRegion ops (hG .any ops c b a [])::k)) cs w) (lone (bB fr R ds (.inRegion ops []::k)) cs w')/\cN P n ah aH aM u R w'/\(∀N,dM N ah ad w β s.heap ah aH w' aM u.heap)/\At ops es s' D u/\∀j,j<ops.size->D j:=by
 have L:∀(a:Array Bool),a.size=ops.size->hC .any ops a=[]->∀j,j<ops.size->isDone a j:=by
  intro a q f j
  induction j using lb with
  |_ j K=>
   intro d
   by_cases A:isDone a j
   ·exact A
   ·exfalso;have G:j<a.size:=by omega
    have:j∈hC .any ops a:=by
     rw[fb];refine⟨?_,ops[j],b5 d,fun e B z=>?_⟩
     ·unfold isDone at A;simp only[cx,b5 G,ls]at A⊢;simpa using A
     ·have H:=h.lower j _ (b5 d) e B z;exact K e.on H o_
    rw[f]at this;simp at this
 intro c
 induction c with
 |zero=>
  intro b a s ad β t w q O hc y C;have f:hC .any ops a=[]:=by
   rw[List.eq_nil_iff_forall_not_mem];intro j d;rw[fb]at d;obtain⟨g,o,m,_⟩:=d;have G:j<ops.size:=(b4.1 m).1;have:0<left ops a:=by
    unfold left;rw[List.countP_pos_iff];exact⟨j,by simpa using G,by rw[g];rfl⟩
   omega
  exact⟨s,isDone a,ad,β,t,w,by simp only[hG,List.reverse_nil];exact hP _ _,C,fun _=>dM.refl _ _ _ _ _ _,y,L a q f⟩
 |succ c K=>
  intro b a s ad β t w q O hc y C;have Z:hG .any ops (c+1) b a []=(match(hC .any ops a)[b% (hC .any ops a).length]? with
   |some i=>hG .any ops c (b/(hC .any ops a).length) (a.setIfInBounds i true) [i]
   |none=>[].reverse):=rfl
  rw[Z];cases hi:(hC .any ops a)[b% (hC .any ops a).length]? with
  |none=>
   have f:hC .any ops a=[]:=by
    cases f:hC .any ops a with
    |nil=>rfl
    |cons x xs=>
     rw[f]at hi;have H:b% (x::xs).length<(x::xs).length:=Nat.mod_lt _ s_;rw[h4 H]at hi;cases hi
   exact⟨s,isDone a,ad,β,t,w,hP _ _,C,fun _=>dM.refl _ _ _ _ _ _,y,L a q f⟩
  |some i=>
   simp only;rw[linearise_go_acc,List.reverse_singleton,List.singleton_append];have ac:=List.mem_of_getElem? hi;obtain⟨g,o,m,Q⟩:=fb.1 ac;have aa:i<ops.size:=(b4.1 m).1;have E:i<a.size:=o_
   have ae:¬isDone a i:=by
    unfold isDone;simp only[cx,b5 E,ls]at g⊢;simp[g]
   obtain⟨u,S,ag,t1,w1,a1,a2,a3,a4⟩:=h.run (fr:=fr) (k:=k) (cs:=cs) (ds:=ds) (r:=hG .any ops c (b/(hC .any ops a).length) (a.setIfInBounds i true) []) hc m ae Q y C;have M:(fun j=>isDone a j\/j=i)=isDone (a.setIfInBounds i true):=by
    funext j
    unfold isDone
    by_cases F:j=i
    ·subst F;simp[E]
    ·have:(a.setIfInBounds i true).getD j false=a.getD j false:=fl false (ll F);rw[this];simp[F]
   rw[M]at a4;have Y:wD ops (isDone (a.setIfInBounds i true)):=by
    rw[<-M];intro j o' I d e B z;rcases d with d|rfl
    ·exact .inl (hc j o' I d e B z)
    ·rw[m]at I;cases I;exact .inl (Q e B z)
   have ab:left ops (a.setIfInBounds i true)<=c:=by
    have aj:=JB (p:=fun j=>!a.getD j true) (i:=i) (l:=i9 ops.size) List.nodup_range (by simpa using aa) (by show(!a.getD i true)=true;rw[g];rfl);have:left ops (a.setIfInBounds i true)=(i9 ops.size).countP (fun x=>!a.getD x true&&x !=i):=by
     unfold left;refine kd fun x hx=>?_
     by_cases J:x=i
     ·subst J;simp[E]
     ·have:(a.setIfInBounds i true).getD x true=a.getD x true:=fl true (ll J);rw[this];simp[J]
    unfold left at O;omega
   obtain⟨v,D,T,ai,t2,af,b1,U,V,W,X⟩:=K (b/(hC .any ops a).length) (a.setIfInBounds i true) u S ag t1 w1 (by simpa using q) ab Y a4 a2;exact⟨v,D,T,ai,t2,af,a1.trans b1,U,fun N=>(a3 N).trans (V N),W,X⟩
theorem X4(h:fit n ops=true):(∀j o,ops[j]?=some o->∀e∈o.after,hE .any e=true->e.on<j)/\
 (∀i j u o,i<j->ops[i]?=some u->ops[j]?=some o->qZ ops u o=true->reach ops ops.size i j=true):=by
 unfold fit at h;rw[ik]at h;constructor
 ·intro j o a e f c;have b:j<ops.size:=(b4.1 a).1;have:=h j (by simpa using b);rw[a]at this;simp only[da,ik]at this;have:=this.1 e (by simpa using f);simpa[c]using this
 ·intro i j u o g k a d;have b:j<ops.size:=(b4.1 a).1;have:=h j (by simpa using b);rw[a]at this;simp only[da,ik]at this;have:=this.2 i (by simpa using g);rw[k]at this;simpa[d]using this
theorem yp(C:l8 P ag)(Y:P.follows .mixedOrders=true):tA P ag fit:=by
 intro n N a fr k cs E f K s ah ad β t w S B h Z;obtain⟨es,s',H,I,J⟩:=Ll C B a.toList 0 [] s (fun _ h=>h) h;obtain⟨t1,t2,t3⟩:=H.at;obtain⟨_,_,M⟩:=JP es 0 [] J;obtain⟨f1,f2⟩:=X4 (n:=n) S;have W:es.length=a.size:=by simpa using t1
 have hs:jd P n a es s':=by
  refine⟨W,fun k o c=>t3 k o (by simpa using c),B,f1,f2,fun i j T af v=>?_⟩;have hi:i<es.length:=o_
  have A:j<es.length:=o_
  have F:es[i]?=some (es[i].1,es[i].2):=by simp[h4 hi]
  have G:es[j]?=some (es[j].1,es[j].2):=by simp[h4 A]
  have:=M i j es[i].1 es[i].2 es[j].1 es[j].2 T F G;simp only[kK]at this;refine this ?_;have g:de es s' i=es[i].1/\fI es i=es[i].2:=by simp[de,fI,h4 hi]
  have q:de es s' j=es[j].1/\fI es j=es[j].2:=by simp[de,fI,h4 A]
  rw[g.1,g.2,q.1,q.2]at v;exact v
 have U:=hs.xd (k:=0) (la _);rw[t2]at U;obtain⟨m,X⟩:∃m,m=s'.heap.length-s.heap.length:=⟨_,rfl⟩
 have aa:=Z.qd m;have O:∀N,dM N ah ad w β s.heap ah ad w β (s.heap++hZ m .hole):=fun N=>⟨fun _ x=>x,fun _ x=>x,fun _ x=>.inl x,Ext.refl _ _ _,(qL _ _ _).n,fun x _=>nX _ _ x,fun b _⟨L,r⟩=>⟨L,by rw[lJ,if_pos (hV.1 r).1];exact r⟩⟩
 have ab:hF (P.follows .mixedOrders) a f=hG .any a a.size f (ck a.size false) []:=by
  simp[hF,Y,Region.linearise]
 have e:∀i,¬isDone (ck a.size false) i:=by
  intro i hi;unfold isDone at hi
  by_cases z:i<a.size
  ·simp[z]at hi
  ·simp[z]at hi
 have Q:At a es s' (isDone (ck a.size false)) ⟨s.env,s.heap++hZ m .hole⟩:=by
  refine⟨fun x=>⟨0,la _,by rw[t2],fun i o _ _=>⟨fun h=>(e i h).elim,fun h=>by omega⟩⟩,by simp;omega,fun b=>⟨0,la _,by rw[t2];unfold hx;rw[<-X],fun i _ _=>⟨fun h=>(e i h).elim,fun h=>by omega⟩⟩⟩
 have V:left a (ck a.size false)<=a.size:=by
  unfold left;have:=List.countP_le_length (p:=fun i=>!(ck a.size false).getD i true) (l:=i9 a.size);simpa using this
 obtain⟨u,D,aH,aM,ae,w',a1,a2,a3,a4,a5⟩:=hs.goes (fr:=fr) (k:=k) (cs:=cs) (ds:=E) a.size f (ck a.size false) _ ad β t w s_ V (fun j o c d=>(e j d).elim) Q aa;rw[ab];have R:∀x,aP s'.env x=aP u.env x:=by
  intro x;obtain⟨k,k1,k2,k3⟩:=a4.tmp x;rw[k2];have:=hs.ME (x:=x) k1 (kv a.size) (fun i o c d=>by
   have hi:i<a.size:=(b4.1 c).1;have:=(k3 i o c d).1 (a5 i hi);exact⟨fun _=>hi,fun _=>this⟩)
  rw[hs.last]at this;exact this
 have y:s'.heap=u.heap:=by
  apply List.ext_getElem?;intro b;obtain⟨k,k1,k2,k3⟩:=a4.heap b;rw[k2];have:=hs.Mp (b:=b) k1 (kv a.size) (fun i hi ac=>by
   have:=(k3 i hi ac).1 (a5 i hi);exact⟨fun _=>hi,fun _=>this⟩)
  rw[hs.last]at this;rw[<-this];simp[hx]
 exact⟨s',aH,aM,ae,w',I,a1,a2.congr R y,(O N).trans (y▸a3 N)⟩
end
section
variable{P:dq}
structure au(P:dq)(f:eb)(fn:Func):Prop where
 func:P.funcs[f]?=some fn
 stat:(fn.body.isSome&&(fn.name != "runtime.NumGoroutine")&&codeOk fit fn.ntmps (fn.body.getD .skip))=true
theorem i_{P:dq}{n:eb}{fn:Func}(h:P.funcs[n]?=some fn)(k:(fn.body.isSome&&(fn.name != "runtime.NumGoroutine")&&codeOk fit fn.ntmps (fn.body.getD .skip))=true:=by kernel_rfl):au P n fn:=⟨h,k⟩
theorem au.enters{f:eb}{fn:Func}(h:au P f fn):Enters P f:=by
 intro args w;have hs:=h.stat;simp only[da,bne_iff_ne]at hs;cases a:fn.body with
 |none=>rw[a]at hs;simp at hs
 |some c=>simp[callFunc,h.func,hs.1.2,a]
def Ends(P:dq)(a:List eq)(v:PV)(e:bA)(s:St):Prop:=
 (match e with
  | .exit _=>False
  |_=>True)/\∃vs,fL P s a=some vs/\eB s.heap 9 (oneOf vs)=some v
theorem AJ{f:eb}{fn:Func}(ag:eb->Bool)(h:au P f fn)(b:P.follows .mixedOrders=true){args:List PV}{v:PV}(c:args.length<=fn.ntmps)
 (d:cj P ag (fn.ntmps,0) (fn.body.getD .skip) (Ends P fn.results.toList v) ⟨iT 0 (args.map .p),[]⟩):aB P f args v:=by
 have hs:=h.stat;simp only[da,bne_iff_ne]at hs;have a:fn.body=some (fn.body.getD .skip):=by
  have:=hs.1.1;cases e:fn.body<;>simp_all
 exact .inl (LK (ph ag) (yp (ph ag) b) h.enters h.func a hs.2 c d)
class aMh(P:dq)(f:eb)(args:List PV)(pre:outParam Prop)(v:outParam PV):Prop where
 AJ:pre->aB P f args v
section calls
variable{f:eb}{H:aj}{pre:Prop}{v:PV}
end calls
def sn(e:Env):Env->Prop
 |[]=>True
 |(x,v)::r=>aP e x=v/\sn e r
def kU:aj->aj->Prop
 |_,[]=>True
 |[],.hole::t=>kU [] t
 |_::h,.hole::t=>kU h t
 |o::h,o'::t=>o=o'/\kU h t
 |[],_::_=>False
theorem sn.get{e:Env}:∀{t:Env},sn e t->∀x,aP t x=aP e x\/aP t x=.p .undef
 |[],_,x=>.inr rfl
 |(y,v)::t,h,x=>by
  simp only[sn]at h;simp only[aP]
  split
  ·rename_i hx;subst hx;exact .inl h.1.symm
  ·exact sn.get h.2 x
theorem kU.get:∀{h t:aj},kU h t->∀(b:Nat)(o:Obj),t[b]?=some o->o=.hole\/h[b]?=some o
 |_,[],_,b,o,a=>by simp at a
 |[],o'::t,hk,b,o,a=>by
  cases o'<;>simp only[kU]at hk;cases b with
  |zero=>simp at a;exact .inl a.symm
  |succ b=>exact(kU.get hk b o (by simpa using a)).imp id (fun h=>by simp at h)
 |c::h,o'::t,hk,b,o,a=>by
  cases b with
  |zero=>
   simp at a;cases o'<;>simp only[kU]at hk
   case hole=>exact .inl a.symm
   all_goals exact .inr (by rw[<-a,<-hk.1];simp)
  |succ b=>
   have:kU h t:=by cases o'<;>simp only[kU]at hk<;>first|exact hk|exact hk.2
   exact(kU.get this b o (by simpa using a)).imp id (fun h=>by simpa using h)
def iu(H:aj):Env->Prop
 |[]=>True
 |(_,v)::r=>aG (aI H) v/\iu H r
def dE(H:aj):aj->Prop
 |[]=>True
 |o::r=>o.refs (aI H)/\dE H r
theorem iu.get{H:aj}:∀{e:Env},iu H e->∀x,aG (aI H) (aP e x)
 |[],_,x=>by simp[aP,aG]
 |(y,v)::e,h,x=>by
  simp only[iu]at h;simp only[aP]
  split
  ·exact h.1
  ·exact iu.get h.2 x
theorem dE.get{H:aj}:∀{h:aj},dE H h->∀(b:Nat)(o:Obj),h[b]?=some o->o.refs (aI H)
 |[],_,b,o,a=>by simp at a
 |c::h,hr,b,o,a=>by
  simp only[dE]at hr;cases b with
  |zero=>simp at a;subst a;exact hr.1
  |succ b=>exact dE.get hr.2 b o (by simpa using a)
theorem pU.of{s t:St}(a:sn s.env t.env)(c:kU s.heap t.heap)(e:iu t.heap t.env)(f:dE t.heap t.heap):pU s t:=
 ⟨fun x=>(a.get x).imp id .inl,fun b o d=>(c.get b o d).imp id .inl,e.get,f.get⟩
theorem cR.of{N:Nat}{s t:St}(e:t.heap.take N=s.heap.take N)(c:sn s.env t.env)(d:kU s.heap t.heap)(f:iu t.heap t.env)(g:dE t.heap t.heap):cR N s t:=by
 refine .inr ⟨pU.of c d f g,fun b a=>?_⟩;have:=congrArg (fun l:aj=>l[b]?) e;simpa[List.getElem?_take,a]using this
theorem Qy{f:eb}{fn:Func}(ag:eb->Bool)(h:au P f fn)(b:P.follows .mixedOrders=true){args:List AV}{H H':aj}{v:AV}(c:args.length<=fn.ntmps)
 (d:cj P ag (fn.ntmps,H.length) (fn.body.getD .skip) (uk P fn.results.toList H.length H' v) ⟨iT 0 args,H⟩):cC P f H args H' v:=by
 have hs:=h.stat;simp only[da,bne_iff_ne]at hs;have a:fn.body=some (fn.body.getD .skip):=by
  have:=hs.1.1;cases e:fn.body<;>simp_all
 exact X3 (ph ag) (yp (ph ag) b) h.enters h.func a hs.2 c d
theorem Qz(ag:eb->Bool)(f:P.follows .mixedOrders=true){b:Nat}{L:dK}{H H':aj}{args:List AV}{v:AV}(d:H[b]?=some (.loop L))(e:args.length=L.params.length)
 (a:(L.params.all (fun x=>decide (x<L.n))&&codeOk fit L.n L.assign&&codeOk fit L.n L.body)=true)(g:ze P ag L b args H (fun c h=>h=v/\cR H.length ⟨[],c⟩ ⟨[],H'⟩)):fx P b H args H' v:=by
 simp only[da,ik,decide_eq_true_eq]at a;exact X0 (ph ag) (yp (ph ag) f) d e a.1.1 a.1.2 a.2 g
theorem again{N:Nat}{α:Type}{mk:α->St}{ok:α->Prop}{m:α->Nat}{n:Nat}{s':St}(a':α)(c:m a'<n)(d:ok a')(e:cR N s' (mk a')):∃a b,a<n/\cR N s' b/\∃a',ok a'/\b=mk a'/\a=m a':=
 ⟨m a',mk a',c,e,a',d,rfl,rfl⟩
end
section
variable{P:dq}{ag:eb->Bool}
def aW{α:Type}(F:(α->Prop)->Prop):Prop:=∀K,F K->∃a,K a/\∀b:α->Prop,b a->F b
theorem aW.one{α β:Type}(f:β->α)(b:β):aW (fun K:α->Prop=>K (f b)):=fun _ h=>⟨f b,h,fun _ h=>h⟩
theorem aW.false{α:Type}:aW (fun _:α->Prop=>False):=fun _ h=>h.elim
theorem aW.and{α:Type}{p:Prop}{F:(α->Prop)->Prop}(h:aW F):aW (fun K=>p/\F K):=fun K hk=>by
 obtain⟨a,c,d⟩:=h K hk.2;exact⟨a,c,fun b h=>⟨hk.1,d b h⟩⟩
theorem aW.ex{α:Type}{β:Sort _}{F:β->(α->Prop)->Prop}(h:∀b,aW (F b)):aW (fun K=>∃b,F b K):=fun K⟨b,f⟩=>by
 obtain⟨a,d,e⟩:=h b K f;exact⟨a,d,fun c h=>⟨b,e c h⟩⟩
theorem aW.or{α:Type}{F G:(α->Prop)->Prop}(h:aW F)(e:aW G):aW (fun K=>F K\/G K):=fun K hk=>by
 rcases hk with hk|hk
 ·obtain⟨a,c,d⟩:=h K hk;exact⟨a,c,fun b h=>.inl (d b h)⟩
 ·obtain⟨a,c,d⟩:=e K hk;exact⟨a,c,fun b h=>.inr (d b h)⟩
theorem aW.ite{α:Type}{p:Prop}[Decidable p]{F G:(α->Prop)->Prop}(h:aW F)(f:aW G):aW (fun K=>if p then F K else G K):=fun K hk=>by
 split at hk
 ·rename_i e;obtain⟨a,c,d⟩:=h K hk;exact⟨a,c,fun b h=>by simpa[e]using d b h⟩
 ·rename_i e;obtain⟨a,c,d⟩:=f K hk;exact⟨a,c,fun b h=>by simpa[e]using d b h⟩
theorem aW.bind{α β:Type}{F:(α->Prop)->Prop}{G:α->(β->Prop)->Prop}(h:aW F)(d:∀a,aW (G a)):aW (fun K=>F (fun a=>G a K)):=fun K hk=>by
 obtain⟨a,e,f⟩:=h _ hk;obtain⟨b,g,i⟩:=d a K e;exact⟨b,g,fun c h=>f _ (i c h)⟩
theorem aW.map{α β:Type}{F:(α->Prop)->Prop}(h:aW F)(f:α->β):aW (fun K=>F (fun a=>K (f a))):=h.bind fun a=>aW.one f a
theorem WB(T:dp)(H:aj)(a:AV):aW (oF P T H a):=by
 unfold oF
 repeat' first
  |exact aW.false
  |exact aW.one id _
  |refine aW.and ?_
  |refine aW.ex fun _=>?_
  |split
theorem We(T:dp)(H:aj)(a x:AV):aW (nZ P T H a x):=by
 unfold nZ
 repeat' first
  |exact aW.false
  |exact aW.one id _
  |refine aW.and ?_
  |refine aW.ex fun _=>?_
  |split
theorem TZ(T:dp)(a:AV)(f:Nat):aW (nQ P T a f):=by
 unfold nQ
 repeat' first
  |exact aW.false
  |exact aW.one id _
  |refine aW.and ?_
  |refine aW.ex fun _=>?_
  |split
theorem TY(T:dp)(H:aj)(a i:AV):aW (nP P T H a i):=by
 unfold nP
 repeat' first
  |exact aW.false
  |exact aW.one id _
  |refine aW.and ?_
  |refine aW.ex fun _=>?_
  |split
theorem UL(T X:dp)(H:aj)(s x:AV):aW (nS P T X H s x):=by
 unfold nS
 repeat' first
  |exact aW.false
  |exact aW.one id _
  |refine aW.and ?_
  |refine aW.ex fun _=>?_
  |refine aW.ite ?_ ?_
  |split
theorem Lp{α:Type}{F:Nat->(α->Prop)->Prop}(x:Option AV)(d:Nat)(h:∀n,aW (F n)):aW (fun K=>gO x d (fun n=>F n K)):=by
 unfold gO
 split
 ·exact h _
 ·exact aW.and (h _)
 ·exact aW.false
theorem Wf(T:dp)(H:aj)(x:AV)(lo hi a:Option AV):aW (n9 P T H x lo hi a):=by
 unfold n9;refine aW.and ?_
 repeat' first
  |exact aW.false
  |exact aW.one id _
  |refine aW.and ?_
  |refine Lp _ _ fun _=>?_
  |refine aW.ite ?_ ?_
  |split
theorem UK(T:dp)(H:aj)(x:AV)(lo hi:Option AV)(m:AV):aW (q7 P T H x lo hi m):=by
 unfold q7
 repeat' first
  |exact aW.false
  |exact aW.one id _
  |refine aW.and ?_
  |refine Lp _ _ fun _=>?_
  |split
theorem Xx(op:ee)(T:dp)(c:Bool)(H:aj)(x y:AV)(f:PV->aY):aW (fun K:aY->Prop=>kT P op T c H x y (fun v=>K (f v))):=by
 unfold kT
 repeat' first
  |exact aW.false
  |exact aW.one f _
  |refine aW.and ?_
  |(unfold pX;split)
  |(unfold pW;split)
  |split
theorem SY(a:dp)(b:Nat)(key:PV)(x:AV)(c:Obj):aW (mO P a b key x c):=by
 unfold mO
 repeat' first
  |exact aW.false
  |exact aW.one id _
  |refine aW.and ?_
  |split
theorem Dc(o:Oper)(ρ:dl->AV)(H:aj):aW (fG P ag o ρ H):=by
 unfold fG
 repeat' first
  |exact aW.false
  |exact aW.one id _
  |exact WB _ _ _
  |exact We _ _ _ _
  |exact TZ _ _ _
  |exact TY _ _ _ _
  |exact Wf _ _ _ _ _ _
  |exact UK _ _ _ _ _ _
  |exact UL _ _ _ _ _
  |exact SY _ _ _ _ _
  |exact Xx _ _ _ _ _ _ _
  |refine aW.and ?_
  |refine aW.ex fun _=>?_
  |refine aW.ite ?_ ?_
  |refine aW.or ?_ ?_
  |split
  |dsimp only
theorem Kv(d:Bool)(f:eb)(args:List AV)(H:aj){α:Type}(g:AV->aj->α):aW (fun K:α->Prop=>ie P d f args H (fun v H'=>K (g v H'))):=by
 unfold ie;refine aW.or (aW.ex fun vs=>aW.ex fun v=>aW.and (aW.and ?_)) (aW.and (aW.or (aW.ex fun vs=>aW.ex fun H1=>aW.ex fun v=>aW.and (aW.and ?_)) (aW.or (aW.ex fun H'=>aW.ex fun v=>aW.and ?_) (aW.or (aW.ex fun e=>aW.and (aW.and ?_)) (aW.ex fun al=>aW.ex fun v=>aW.and (aW.and ?_))))))
 ·exact aW.one (fun v=>g (.p v) H) v
 ·exact aW.one (fun v=>g (.p v) H1) v
 ·exact aW.one (fun v=>g v H') v
 ·exact aW.one (fun _:Unit=>g e.v (bc H e.aK++e.aX)) ()
 ·exact aW.one (fun v=>g (.p v) H) v
theorem JR(f:eb)(args:List AV)(H:aj):aW (ir P f args H):=by
 unfold ir;refine aW.or (aW.ex fun vs=>aW.ex fun v=>aW.and (aW.and (aW.one id _))) (aW.or (aW.ex fun vs=>aW.ex fun bs=>aW.ex fun al=>aW.ex fun aK=>aW.ex fun v=>aW.and (aW.and (aW.and (aW.one id _)))) (aW.or (aW.ex fun e=>aW.and (aW.and (aW.one id _))) (aW.ex fun al=>aW.ex fun v=>aW.and (aW.and (aW.one id _)))))
theorem Kt(d:Bool)(o:Oper)(s:St):aW (fun K=>jU P ag d o K s):=by
 unfold jU
 split
 ·split
  ·exact Kv _ _ _ _ (fun v H'=>(⟨put o.dst v s.env,H'⟩:St))
  ·exact Kv _ _ _ _ (fun v H'=>(⟨put o.dst v s.env,H'⟩:St))
  ·exact aW.ex fun H'=>aW.ex fun v=>aW.and (aW.one (fun _:Unit=>(⟨put o.dst v s.env,H'⟩:St)) ())
  ·exact aW.false
 ·exact(Dc o _ _).map (fun e=>e.app o.dst s)
theorem Ku(o:Oper)(s:St):aW (jz P ag o s):=by
 unfold jz
 split
 ·split
  ·exact JR _ _ _
  ·exact JR _ _ _
  ·exact aW.ex fun e=>aW.and (aW.and (aW.one id _))
  ·exact aW.false
 ·exact Dc o _ _
theorem yU(d:Bool)(a:Array Oper):∀(l:List Oper)(s:St),aW (fun K=>ig P ag d a l K s)
 |[],s=>by simp only[ig];exact aW.one id s
 |o::l,s=>by
  have go:aW (fun K=>jU P ag d o (ig P ag d a l K) s):=(Kt d o s).bind fun t=>yU d a l t;simp only[ig]
  split
  ·exact go
  ·split
   ·split
    ·exact go
    ·exact yU d a l _
   ·exact yU d a l _
   ·exact aW.false
theorem yC(b:Array Oper):∀(l:List Oper)(i:Nat)(a:List Touch)(s:St),aW (fun K=>gD P ag b l i a K s)
 |[],i,a,s=>by simp only[gD];exact aW.and (aW.one id s)
 |o::l,i,a,s=>by
  have go:aW (fun K=>jz P ag o s fun e=>gD P ag b l (i+1) (gl i s.heap.length e a) K (e.app o.dst s)):=(Ku o s).bind fun e=>yC b l (i+1) _ _;simp only[gD]
  split
  ·exact go
  ·split
   ·split
    ·exact go
    ·exact yC b l (i+1) a _
   ·exact yC b l (i+1) a _
   ·exact aW.false
def An(F:(bA->St->Prop)->Prop):Prop:=∀Q,F Q->∃e s,Q e s/\∀a:bA->St->Prop,a e s->F a
inductive wA(P:dq)(ag:eb->Bool)(q:Cx)(b:Code)(e:bA)(s:St):Nat->St->Prop
 |stop {k:Nat} {u:St}:(∀Q:bA->St->Prop,Q e s->cj P ag q b Q u)->e≠.normal->wA P ag q b e s k u
 |step {k m:Nat} {u s1 u':St}:(∀Q:bA->St->Prop,Q .normal s1->cj P ag q b Q u)->m<k->cR q.2 s1 u'->wA P ag q b e s m u'->wA P ag q b e s k u
theorem WC(j:Option Code)(s:St):An (fun Q=>je Q j s):=fun Q h=>by
 unfold je at h
 split at h
 ·exact⟨.normal,s,h,fun _ h=>h⟩
 ·rename_i id;exact⟨.exit id,s,h,fun _ h=>h⟩
 ·exact⟨.ret,s,h,fun _ h=>h⟩
 ·exact h.elim
theorem Ks(b:Nat)(env:Env)(H:aj):An (fun Q=>iE b env Q H):=fun Q h=>by
 unfold iE at h
 split at h
 ·rename_i L f;obtain⟨e,s,c,d⟩:=WC _ _ Q h.2;exact⟨e,s,c,fun a hq=>by unfold iE;simp only[f];exact⟨h.1,d a hq⟩⟩
 ·exact h.elim
theorem Wn(it:AV)(b:Nat)(H:aj)(env:Env):An (fun Q=>jq P it b H (iE b env Q)):=fun Q h=>by
 unfold jq at h
 split at h
 ·obtain⟨H',v,c,d⟩:=h;obtain⟨e,s,k1,k2⟩:=Ks b env H' Q d;exact⟨e,s,k1,fun a hq=>by simp only[jq];exact⟨H',v,c,k2 a hq⟩⟩
 ·obtain⟨H',v,c,d⟩:=h;obtain⟨e,s,k1,k2⟩:=Ks b env H' Q d;exact⟨e,s,k1,fun a hq=>by simp only[jq];exact⟨H',v,c,k2 a hq⟩⟩
 ·exact h.elim
theorem nN{q:Cx}:∀(c:Code)(s:St),An (fun Q=>cj P ag q c Q s)
 | .skip,s| .label _,s=>fun Q h=>⟨.normal,s,h,fun _ h=>h⟩
 | .exit id,s=>fun Q h=>⟨.exit id,s,h,fun _ h=>h⟩
 | .ret,s=>fun Q h=>⟨.ret,s,h,fun _ h=>h⟩
 | .region id ops draw,s=>fun Q h=>by
  simp only[cj]at h⊢
  split at h
  ·rename_i l;obtain⟨t,d,g⟩:=yC ops _ _ _ _ _ h;exact⟨.normal,t,d,fun Q' h=>by simp only[l,if_true];exact g _ h⟩
  ·rename_i l;obtain⟨t,d,g⟩:=yU _ ops _ _ _ h;exact⟨.normal,t,d,fun Q' h=>by rw[if_neg l];exact g _ h⟩
 | .seq a b,s=>fun Q h=>by
  simp only[cj]at h⊢;obtain⟨e,t,d,g⟩:=nN a s _ h;cases e with
  |normal=>
   obtain⟨e',r,k,y⟩:=nN b t _ d;exact⟨e',r,k,fun Q' h=>g _ (y Q' h)⟩
  |exit id=>exact⟨.exit id,t,d,fun Q' h=>g _ h⟩
  |ret=>exact⟨.ret,t,d,fun Q' h=>g _ h⟩
 | .cond c a b,s=>fun Q h=>by
  simp only[cj]at h⊢
  split at h
  ·split at h
   ·rename_i p;obtain⟨e,t,d,g⟩:=nN a s _ h;exact⟨e,t,d,fun Q' h=>by rw[if_pos p];exact g _ h⟩
   ·rename_i p;obtain⟨e,t,d,g⟩:=nN b s _ h;exact⟨e,t,d,fun Q' h=>by rw[if_neg p];exact g _ h⟩
  ·exact h.elim
 | .block id b,s=>fun Q h=>by
  simp only[cj]at h⊢;obtain⟨e,t,d,g⟩:=nN b s _ h;cases e with
  |normal=>exact⟨.normal,t,d,fun Q' h=>g _ h⟩
  |exit i=>
   by_cases hi:i=id
   ·simp only[hi,if_true]at d;exact⟨.normal,t,d,fun Q' h=>g _ (by simp only[hi,if_true];exact h)⟩
   ·simp only[hi,if_false]at d;exact⟨.exit i,t,d,fun Q' h=>g _ (by simp only[hi,if_false];exact h)⟩
  |ret=>exact⟨.ret,t,d,fun Q' h=>g _ h⟩
 | .scope b,s=>fun Q h=>by simp only[cj]at h⊢;exact nN b s Q h
 | .loop b,s=>fun Q h=>by
  simp only[cj]at h⊢;obtain⟨I,⟨w,t0,hf,hI⟩,F⟩:=h;have key:∀(n:Nat)(t:St),I n t->∃e u,Q e u/\e≠.normal/\wA P ag q b e u n t:=by
   intro n
   induction n using lb with
   |_ n G=>
    intro t hI;obtain⟨e,s1,d,g⟩:=nN b t _ (F n t hI);cases e with
    |normal=>
     obtain⟨m,r,j,o,z⟩:=d;obtain⟨e,u,k1,k2,k3⟩:=G m j r z;exact⟨e,u,k1,k2,.step g j o k3⟩
    |exit id=>exact⟨.exit id,s1,d,s_,.stop g s_⟩
    |ret=>exact⟨.ret,s1,d,s_,.stop g s_⟩
  obtain⟨e,u,d,g,k⟩:=key w t0 hI;refine⟨e,u,d,fun Q' v=>⟨wA P ag q b e u,⟨w,t0,hf,k⟩,?_⟩⟩;intro n t C;cases C with
  |stop hs E=>
   refine hs _ ?_;cases e with
   |normal=>exact(E rfl).elim
   |exit id=>exact v
   |ret=>exact v
  |step hs j o D=>exact hs _ ⟨_,_,j,o,D⟩
 | .rangeFunc f H a b,s=>fun Q h=>by
  simp only[cj]at h;obtain⟨A,x,B,h⟩:=h;obtain⟨e,t,d,g⟩:=Wn _ _ _ _ Q h;exact⟨e,t,d,fun Q' hq=>by simp only[cj];exact⟨A,x,B,g Q' hq⟩⟩
 | .goto _,_| .refuse _,_=>fun Q h=>by simp[cj]at h
def Spec(P:dq)(f:eb)(args:List PV)(Q:PV->Prop):Prop:=∃v,aB P f args v/\Q v
def Aq(P:dq)(a:List eq)(Q:PV->Prop)(e:bA)(s:St):Prop:=
 (match e with
  | .exit _=>False
  |_=>True)/\∃vs,fL P s a=some vs/\∃v,eB s.heap 9 (oneOf vs)=some v/\Q v
theorem Spec.mono{f:eb}{args:List PV}{Q a:PV->Prop}(h:Spec P f args Q)(hq:∀v,Q v->a v):Spec P f args a:=by
 obtain⟨v,b,c⟩:=h;exact⟨v,b,hq v c⟩
end
def oB(id:Nat)(Q:bA->St->Prop)(e:bA)(s:St):Prop:=
 match e with
 | .exit i=>if i=id then Q .normal s else Q (.exit i) s
 |e=>Q e s
theorem Uh{id:Nat}{Q:bA->St->Prop}{s:St}:oB id Q .normal s=Q .normal s:=(rfl)
theorem VA{id i:Nat}{Q:bA->St->Prop}{s:St}:oB id Q (.exit i) s=if i=id then Q .normal s else Q (.exit i) s:=(rfl)
theorem WE{id:Nat}{Q:bA->St->Prop}{s:St}:oB id Q .ret s=Q .ret s:=(rfl)
def ua(N n:Nat)(I:Nat->St->Prop)(Q:bA->St->Prop)(e:bA)(s:St):Prop:=
 match e with
 | .normal=>∃a b,a<n/\cR N s b/\I a b
 |e=>Q e s
theorem T6{N n:Nat}{I:Nat->St->Prop}{Q:bA->St->Prop}{s:St}:ua N n I Q .normal s=∃a b,a<n/\cR N s b/\I a b:=(rfl)
theorem UO{N n id:Nat}{I:Nat->St->Prop}{Q:bA->St->Prop}{s:St}:ua N n I Q (.exit id) s=Q (.exit id) s:=(rfl)
theorem Wi{N n:Nat}{I:Nat->St->Prop}{Q:bA->St->Prop}{s:St}:ua N n I Q .ret s=Q .ret s:=(rfl)
section Et
variable{P:dq}
@[congr] theorem aDt{b:Array Oper}{l a:List Touch}(h:l=a):iJ b l=iJ b a:=by rw[h]
end Et
section
variable{P:dq}{ag:eb->Bool}
abbrev eC:=Option (Prop×aY)
def bh(r:eC)(K:aY->Prop):Prop:=
 match r with
 |some (p,e)=>p/\K e
 |none=>False
theorem Ws{p:Prop}{e:aY}{K:aY->Prop}:bh (some (p,e)) K=(p/\K e):=(rfl)
theorem W3{K:aY->Prop}:bh none K=False:=(rfl)
@[congr] theorem aOC{r a:eC}{K:aY->Prop}(h:r=a):bh r K=bh a K:=by rw[h]
def Can(F:(aY->Prop)->Prop)(r:eC):Prop:=∀K,bh r K->F K
theorem Can.none{F:(aY->Prop)->Prop}:Can F none:=fun _ h=>h.elim
def pY(P:dq)(T:dp)(H:aj)(a:AV):eC:=
 match a with
 | .ptr b path=>match H[b]? with
  |some (.box fz t)=>match eX t path with
   |some s=>some (kindOf P T=aa s,{v:=s,al:=[(b,.box fz t)]})
   |none=>none
  |_=>none
 | .cd b aC ai i path=>match H[b]? with
  |some (.arr k d c es)=>match es[i]? with
   |some x=>match eX x path with
    |some s=>some ((aC=d/\ai=c)/\kindOf P T=aa s,{v:=s,al:=[(b,.arr k d c es)]})
    |none=>none
   |none=>none
  |_=>none
 | .p (.cr t)=>some (kindOf P T=aL t,{v:=.p t})
 |_=>none
theorem Zd{T:dp}{H:aj}{a:AV}:Can (oF P T H a) (pY P T H a):=by
 intro K h;unfold pY at h;unfold oF
 split at h
 ·split at h
  ·rename_i b
   split at h
   ·rename_i hs;simp only[bh]at h;simp only[b,hs];exact h
   ·exact h.elim
  ·exact h.elim
 ·split at h
  ·rename_i b
   split at h
   ·rename_i x hx;obtain⟨hi,hx⟩:=hV.1 hx
    split at h
    ·rename_i hs;simp only[bh]at h;simp only[b];exact⟨h.1.1.1,h.1.1.2,hi,by rw[hx,hs];exact⟨h.1.2,h.2⟩⟩
    ·exact h.elim
   ·exact h.elim
  ·exact h.elim
 ·exact h
 ·exact h.elim
def pP(P:dq)(T:dp)(H:aj)(a x:AV):eC:=
 match a with
 | .ptr b path=>match H[b]? with
  |some (.box false t)=>match eX t path,ga t path x with
   |some s,some d=>some ((kindOf P T=aa x/\aa x≠.bad)/\aa s=aa x,{v:=.p (.aE []),al:=[(b,.box false t)],aK:=[(b,.box false d)]})
   |_,_=>none
  |_=>none
 | .cd b aC ai i path=>match H[b]? with
  |some (.arr k e c es)=>match es[i]? with
   |some y=>match eX y path,ga y path x with
    |some s,some d=>some ((kindOf P T=aa x/\aa x≠.bad)/\(aC=e/\ai=c/\k≠.frozen)/\aa s=aa x,{v:=.p (.aE []),al:=[(b,.arr k e c es)],aK:=[(b,.arr k e c (es.set i d))]})
    |_,_=>none
   |none=>none
  |_=>none
 |_=>none
theorem XT{T:dp}{H:aj}{a x:AV}:Can (nZ P T H a x) (pP P T H a x):=by
 intro K h;unfold pP at h;unfold nZ
 split at h
 ·split at h
  ·rename_i b
   split at h
   ·rename_i hs c;simp only[bh]at h;simp only[b,hs,c];exact⟨h.1.1.1,h.1.1.2,h.1.2,h.2⟩
   ·exact h.elim
  ·exact h.elim
 ·split at h
  ·rename_i b
   split at h
   ·rename_i y d;obtain⟨hi,d⟩:=hV.1 d
    split at h
    ·rename_i hs c;simp only[bh]at h;simp only[b];exact⟨h.1.1.1,h.1.1.2,h.1.2.1.1,h.1.2.1.2.1,h.1.2.1.2.2,hi,by rw[d,hs,c];exact⟨h.1.2.2,h.2⟩⟩
    ·exact h.elim
   ·exact h.elim
  ·exact h.elim
 ·exact h.elim
def po(P:dq)(T:dp)(a:AV)(f:Nat):eC:=
 match fj P T with
 |some (u,n)=>match a with
  | .ptr b path=>some (f<n,{v:=.ptr b (path++[(u,f)])})
  | .cd b aC ai i path=>some (f<n,{v:=.cd b aC ai i (path++[(u,f)])})
  | .p (.cr t)=>match(bY t)[f]? with
   |some g=>some (f<n/\aL t=.agg u,{v:=.p (.cr g)})
   |none=>none
  |_=>none
 |_=>none
theorem Ue{T:dp}{a:AV}{f:Nat}:Can (nQ P T a f) (po P T a f):=by
 intro K h;unfold po at h;unfold nQ
 split at h
 ·rename_i hs;simp only[hs]
  split at h
  ·exact h
  ·exact h
  ·split at h
   ·rename_i b;simp only[bh]at h;simp only[b];exact⟨h.1.1,h.1.2,h.2⟩
   ·exact h.elim
  ·exact h.elim
 ·exact h.elim
def pn(P:dq)(T:dp)(H:aj)(x i:AV):eC:=
 match i with
 | .p (.int _ i)=>match x with
  | .p (.cT _ es)=>match es[i.toNat]? with
   |some y=>some (0<=i/\cJ P T=some (bG P (aL y)),{v:=.p (.cr y)})
   |none=>none
  | .p (.seq es)=>match es[i.toNat]? with
   |some y=>some (0<=i/\cJ P T=some (bG P (aL y)),{v:=.p (.cr y)})
   |none=>none
  | .sl b aC ai off len=>match H[b]? with
   |some (.arr k c a es)=>some (0<=i/\cJ P T=some ai/\i.toNat<len/\aC=c/\ai=a/\¬(k.gr=true/\es=[]),{v:=.cd b aC ai (off+i.toNat) [],al:=[(b,.arr k c a es)]})
   |_=>none
  | .ptr b path=>match gP P T with
   |some (u,n)=>some (0<=i/\i.toNat<n,{v:=.ptr b (path++[(u,i.toNat)])})
   |_=>none
  | .cd b aC ai j path=>match gP P T with
   |some (u,n)=>some (0<=i/\i.toNat<n,{v:=.cd b aC ai j (path++[(u,i.toNat)])})
   |_=>none
  | .p (.cr t)=>match gP P T with
   |some (u,n)=>match(bY t)[i.toNat]? with
    |some g=>some (0<=i/\aL t=.agg u/\i.toNat<n,{v:=.p (.cr g)})
    |none=>none
   |_=>none
  |_=>none
 |_=>none
theorem Ud{T:dp}{H:aj}{x i:AV}:Can (nP P T H x i) (pn P T H x i):=by
 intro K h;unfold pn at h;unfold nP
 split at h
 case h_2=>exact h.elim
 split at h
 ·split at h
  ·rename_i y a;obtain⟨hi,a⟩:=hV.1 a;simp only[bh]at h;exact⟨h.1.1,hi,by rw[a];exact h.1.2,by rw[a];exact h.2⟩
  ·exact h.elim
 ·split at h
  ·rename_i y a;obtain⟨hi,a⟩:=hV.1 a;simp only[bh]at h;exact⟨h.1.1,hi,by rw[a];exact h.1.2,by rw[a];exact h.2⟩
  ·exact h.elim
 ·split at h
  ·rename_i l;simp only[bh]at h;obtain⟨⟨b,c,d,e,f,g⟩,j⟩:=h;refine⟨b,c,d,?_⟩;rw[l];exact⟨e,f,g,j⟩
  ·exact h.elim
 ·split at h
  ·rename_i hs;simp only[bh]at h;simp only[hs];exact⟨h.1.1,h.1.2,h.2⟩
  ·exact h.elim
 ·split at h
  ·rename_i hs;simp only[bh]at h;simp only[hs];exact⟨h.1.1,h.1.2,h.2⟩
  ·exact h.elim
 ·split at h
  ·rename_i hs
   split at h
   ·rename_i k;simp only[bh]at h;simp only[hs,k];exact⟨h.1.1,h.1.2.1,h.1.2.2,h.2⟩
   ·exact h.elim
  ·exact h.elim
 ·exact h.elim
end
section
variable{P:dq}{ag:eb->Bool}
def pO(P:dq)(T X:dp)(H:aj)(s x:AV):eC:=
 match cJ P T,gY H x with
 |some sz,some xs=>match s with
  | .p .aO=>some ((iV P X=true/\(cB P (ek P T)).isSome=true/\fa P sz xs)/\xs.length<=cV,
   if xs.isEmpty then{v:=s,al:=dD H x}else{v:=.sl H.length 0 sz 0 xs.length,al:=dD H x,aX:=[.arr (gk P T) 0 sz xs]})
  | .sl b aC ai off len=>match H[b]? with
   |some (.arr k c a es)=>some ((iV P X=true/\(cB P (ek P T)).isSome=true/\fa P sz xs)/\(aC=c/\ai=a/\ai=sz/\off+len<=es.length)/\es.length+xs.length<=cV/\k≠ .frozen/\(k≠ .exact->off=0)/\(k= .bytes->ek P T=Gl.u8),
    if xs.isEmpty then{v:=s,al:=(b,.arr k c a es)::dD H x}
    else match k with
     | .exact=>if off+len+xs.length<=es.length then
      {v:=.sl b aC ai off (len+xs.length),al:=(b,.arr k c a es)::dD H x,aK:=[(b,.arr .exact aC ai (es.take (off+len)++xs++es.drop (off+len+xs.length)))]}
      else{v:=.sl H.length 0 sz 0 (len+xs.length),al:=(b,.arr k c a es)::dD H x,aX:=[.arr (gk P T) 0 sz ((es.drop off).take len++xs)]}
     |_=>{v:=.sl b (aC+1) ai 0 (len+xs.length),al:=(b,.arr k c a es)::dD H x,aK:=[(b,.arr k (aC+1) ai (es.take len++xs))]})
   |_=>none
  |_=>none
 |_,_=>none
theorem VF{T X:dp}{H:aj}{s x:AV}:Can (nS P T X H s x) (pO P T X H s x):=by
 intro K h;unfold pO at h;unfold nS
 split at h
 case h_2=>exact h.elim
 rename_i sz o g i;simp only[g,i]
 split at h
 ·simp only[bh]at h;obtain⟨⟨⟨a1,a2,a3⟩,a4⟩,hk⟩:=h;refine⟨a1,a2,a3,?_⟩;dsimp only
  split
  ·rename_i a;rw[if_pos a]at hk;exact hk
  ·rename_i a;rw[if_neg a]at hk;exact⟨a4,hk⟩
 ·split at h
  case h_2=>exact h.elim
  rename_i k n m l j;simp only[bh]at h;obtain⟨⟨⟨a1,a2,a3⟩,⟨rfl,rfl,d,e⟩,f,a9,b,c⟩,hk⟩:=h;refine⟨a1,a2,a3,?_⟩;simp only[j];refine⟨trivial,trivial,d,e,?_⟩
  split
  ·rename_i a;rw[if_pos a]at hk;exact hk
  ·rename_i a;rw[if_neg a]at hk;refine⟨f,?_⟩;cases k with
   |frozen=>exact a9 rfl
   |exact=>
    simp only at hk⊢
    split
    ·rename_i hc;rw[if_pos hc]at hk;exact hk
    ·rename_i hc;rw[if_neg hc]at hk;exact hk
   |grow=>exact⟨b s_,fun h=>(by cases h),hk⟩
   |bytes=>exact⟨b s_,c,hk⟩
 ·exact h.elim
def ld(x:Option AV)(d:Nat):Option (Prop×Nat):=
 match x with
 |none=>some (True,d)
 |some (.p (.int _ i))=>some (0<=i,i.toNat)
 |_=>none
theorem mW{x:Option AV}{d n:Nat}{p:Prop}{K:Nat->Prop}(h:ld x d=some (p,n))(a:p)(hk:K n):gO x d K:=by
 unfold ld at h;unfold gO
 split at h
 ·simp only[lv,l0]at h;obtain⟨rfl,rfl⟩:=h;exact hk
 ·simp only[lv,l0]at h;obtain⟨rfl,rfl⟩:=h;exact⟨a,hk⟩
 ·cases h
def pR(P:dq)(T:dp)(H:aj)(x:AV)(lo hi:Option AV):eC:=
 match x with
 | .p (.str s)=>match ld hi s.length,ld lo 0 with
  |some (p,h),some (q,l)=>some (iK P T=true/\p/\q/\h<=s.length/\l<=h,{v:=.p (.str ((s.take h).drop l))})
  |_,_=>none
 | .p .aO=>match ld hi 0,ld lo 0 with
  |some (p,h),some (q,l)=>some ((cJ P T).isSome=true/\p/\q/\h<=0/\l<=h,{v:=.p .aO})
  |_,_=>none
 | .p (.cT full es)=>match ld hi es.length,ld lo 0,cJ P T with
  |some (p,h),some (q,l),some sz=>some (p/\q/\h<=es.length/\l<=h/\fa P sz (es.map .p),{v:=.p (.cT (full&&h==es.length) ((es.take h).drop l))})
  |_,_,_=>none
 | .p (.seq es)=>match ld hi es.length,ld lo 0,cJ P T with
  |some (p,h),some (q,l),some sz=>some (p/\q/\h<=es.length/\l<=h/\fa P sz (es.map .p),{v:=.p (.seq ((es.take h).drop l))})
  |_,_,_=>none
 | .sl b aC ai off len=>match H[b]? with
  |some (.arr k c a es)=>match ld hi len,ld lo 0 with
   |some (p,h),some (q,l)=>some ((aC=c/\ai=a/\cJ P T=some ai/\¬(k.gr=true/\es=[])/\off+len<=es.length)/\p/\q/\off+h<=es.length/\l<=h,
    if l=0 then{v:=.sl b aC ai off h,al:=[(b,.arr k c a es)]}
    else if l=h then{v:=.p (.cT false []),al:=[(b,.arr k c a es)]}
    else{v:=.sl b aC ai (off+l) (h-l),al:=[(b,.arr k c a es)]})
   |_,_=>none
  |_=>none
 |_=>none
theorem XU{T:dp}{H:aj}{x:AV}{lo hi:Option AV}:Can (n9 P T H x lo hi none) (pR P T H x lo hi):=by
 intro K h;unfold pR at h;unfold n9;refine⟨rfl,?_⟩
 split at h
 ·split at h
  case h_2=>exact h.elim
  rename_i a b;simp only[bh]at h;obtain⟨⟨a1,a2,a3,a4,a5⟩,hk⟩:=h;exact⟨a1,mW a a2 (mW b a3 ⟨a4,a5,hk⟩)⟩
 ·split at h
  case h_2=>exact h.elim
  rename_i a b;simp only[bh]at h;obtain⟨⟨a1,a2,a3,a4,a5⟩,hk⟩:=h;exact⟨a1,mW a a2 (mW b a3 ⟨a4,a5,hk⟩)⟩
 ·split at h
  case h_2=>exact h.elim
  rename_i a b d;simp only[bh]at h;obtain⟨⟨a2,a3,a4,a5,c⟩,hk⟩:=h;refine mW a a2 (mW b a3 ⟨a4,a5,?_⟩);simp only[d];exact⟨c,hk⟩
 ·split at h
  case h_2=>exact h.elim
  rename_i a b d;simp only[bh]at h;obtain⟨⟨a2,a3,a4,a5,c⟩,hk⟩:=h;refine mW a a2 (mW b a3 ⟨a4,a5,?_⟩);simp only[d];exact⟨c,hk⟩
 ·split at h
  case h_2=>exact h.elim
  rename_i g
  split at h
  case h_2=>exact h.elim
  rename_i a b;simp only[bh]at h;obtain⟨⟨⟨a1,a2,a3,a4,a5⟩,c,e,f,a9⟩,hk⟩:=h;simp only[g];refine⟨a1,a2,a3,a4,a5,mW a c (mW b e ⟨f,a9,?_⟩)⟩
  split
  ·rename_i hc;rw[if_pos hc]at hk;exact hk
  ·rename_i hc;rw[if_neg hc]at hk
   split
   ·rename_i hc;rw[if_pos hc]at hk;exact hk
   ·rename_i hc;rw[if_neg hc]at hk;exact hk
 ·exact h.elim
def rV(P:dq)(T:dp)(H:aj)(x key:AV)(ok:Bool):eC:=
 match jw P T,key with
 |some (a,E),.p key=>match cB P E with
  |some z=>match x with
   | .p .ft=>some (eZ P a key=true,{v:=.p (if ok then .aE [z,.bool false]else z)})
   | .p (.eg es)=>match fN P a es key with
    |some r=>some (eZ P a key=true,{v:= .p (match r with
      |some v=>if ok then .aE [v,.bool true]else v
      |none=>if ok then .aE [z,.bool false]else z)})
    |none=>none
   | .map b=>match H[b]? with
    |some (.map fz es)=>match fN P a es key with
     |some r=>some (eZ P a key=true,{v:= .p (match r with
       |some v=>if ok then .aE [v,.bool true]else v
       |none=>if ok then .aE [z,.bool false]else z),al:=[(b,.map fz es)]})
     |none=>none
    |some (.cZ ks vs)=>match jI P a ks vs key with
     |some r=>some (eZ P a key=true/\lG key=true,{v:=nI ok z r,al:=[(b,.cZ ks vs)]})
     |none=>none
    |_=>none
   |_=>none
  |none=>none
 |_,_=>none
def xc(P:dq)(a:dp)(b:Nat)(key:PV)(x:AV)(o:Obj):eC:=
 match pc o with
 |some (ks,vs)=>match jI P a ks vs key with
  |some none=>some (eZ P a key=true/\lG key=true,{v:=.p (.aE []),al:=[(b,o)],aK:=[(b,.cZ (ks++[key]) (vs++[x]))]})
  |_=>none
 |none=>none
def mC(P:dq)(T:dp)(H:aj)(m k x:AV):eC:=
 match jw P T,m,k,x with
 |some (a,_),.map b,.p key,.p v=>match H[b]? with
  |some (.map false es)=>match mq P a es key with
   |some _=>some (eZ P a key=true,{v:=.p (.aE []),al:=[(b,.map false es)],aK:=[(b,.map false (gh es key v))]})
   |none=>none
  |some (.cZ ks vs)=>xc P a b key (.p v) (.cZ ks vs)
  |_=>none
 |some (a,_),.map b,.p key,x=>match H[b]? with
  |some o=>xc P a b key x o
  |none=>none
 |_,_,_,_=>none
def rE(P:dq)(T:dp)(n:Nat)(x:AV):eC:=
 match x with
 | .p (.str s)=>some (iK P T=true,{v:=.ptr n [],aX:=[.dw s 0]})
 |_=>none
def sc(H:aj)(it:AV):eC:=
 match it with
 | .ptr b []=>match H[b]? with
  |some (.dw s pos)=>some (True,if pos<s.length then
   {v:=.p (.aE [.bool true,.int .i64 pos,.int .i32 (hQ (gJ s) pos).1]),al:=[(b,.dw s pos)],aK:=[(b,.dw s (pos+(hQ (gJ s) pos).2))]}
   else{v:=.p (.aE [.bool false]),al:=[(b,.dw s pos)]})
  |_=>none
 |_=>none
def se(P:dq)(T:dp)(n:Nat)(l c:AV):eC:=
 match cJ P T,cB P (ek P T),l,c with
 |some sz,some z,.p (.int .i64 l),.p (.int .i64 c)=>some (bG P (aL z)=sz/\0<=l/\l=c/\l<=cV,{v:=.sl n 0 sz 0 l.toNat,aX:=[.arr .exact 0 sz (hZ l.toNat (.p z))]})
 |_,_,_,_=>none
def copyV(P:dq)(T:dp)(H:aj)(d x:AV):eC:=
 match cJ P T,d,gY H x with
 |some sz,.sl b aC ai off len,some xs=>match H[b]? with
  |some (.arr k c a es)=>some ((ai=sz/\fa P sz xs)/\aC=c/\ai=a/\k≠ .frozen/\off+len<=es.length/\¬(k.gr=true/\es=[]),
   {v:=.p (.int .i64 (min xs.length len:Nat)),al:=(b,.arr k c a es)::dD H x,aK:=[(b,.arr k c a (es.take off++xs.take (min xs.length len)++es.drop (off+min xs.length len)))]})
  |_=>none
 |_,_,_=>none
def ry(x:AV):eC:=
 match x with
 | .ptr _ _| .cd _ _ _ _ _| .p (.cr _)=>some (True,{v:=x})
 |_=>none
def lj(b:Bool)(c:List AV):eC:=
 match c with
 | .p (.int k a)::r=>match mg k b r a with
  |some n=>some (True,{v:=.p (.int k n)})
  |none=>none
 |_=>none
def rT(f:eb)(fi ca:List AV):eC:=
 match eQ fi,eQ ca with
 |some a,some b=>some (True,{v:=.p (.func f a b)})
 |_,_=>some (True,{v:=.func f fi ca})
end
section
variable{P:dq}{ag:eb->Bool}
def rY(c a b:AV):eC:=
 match c with
 | .p (.bool t)=>some (True,{v:=if t then a else b})
 |_=>none
def rK(P:dq)(T:dp)(n:Nat):eC:=
 match cB P T with
 |some z=>some (kindOf P T=aL z/\aL z≠.bad/\jy T (aL z)=true,{v:=.ptr n [],aX:=[.box false (.p z)]})
 |none=>none
def uq(P:dq)(T:dp)(n:Nat)(x:AV):eC:=some (kindOf P T=aa x/\aa x≠.bad/\jy T (aa x)=true,{v:=.ptr n [],aX:=[.box false x]})
def rI(P:dq)(T:dp)(a:List (Nat×AV)):eC:=
 match kindOf P T,cB P T with
 | .agg u,some z=>match dA P u with
  |some l=>some (aL z=.agg u/\mf P l a,{v:=iw u (iI ((bY z).map .p) a)})
  |none=>none
 |_,_=>none
def qO(P:dq)(T:dp)(n:Nat)(a:List (Nat×AV))(b:Nat):eC:=
 match cJ P T,cB P (ek P T)with
 |some sz,some z=>some (bG P (aL z)=sz/\n*sz<=1000000/\mf P (hZ n sz) a,{v:=.sl b 0 sz 0 n,aX:=[.arr .exact 0 sz (iI (hZ n (.p z)) a)]})
 |_,_=>none
def uE(op:ee)(k:en)(a b:Int):Prop×PV:=
 match op with
 | .add=>(True,.int k (k.wrap (a+b)))
 | .sub=>(True,.int k (k.wrap (a-b)))
 | .mul=>(True,.int k (k.wrap (a*b)))
 | .quo=>(b≠0,.int k (k.wrap (a.tdiv b)))
 | .rem=>(b≠0,.int k (a.tmod b))
 | .and=>(True,.int k (k.wrap (c9 k.bits a&&&c9 k.bits b).toNat))
 | .or=>(True,.int k (k.wrap (c9 k.bits a|||c9 k.bits b).toNat))
 | .xor=>(True,.int k (k.wrap (c9 k.bits a^^^c9 k.bits b).toNat))
 | .andNot=>(True,.int k (k.wrap (c9 k.bits a&&&~~~c9 k.bits b).toNat))
 | .eql=>(True,.bool (a==b))
 | .neq=>(True,.bool (a !=b))
 | .lss=>(True,.bool (decide (a<b)))
 | .leq=>(True,.bool (decide (a<=b)))
 | .gtr=>(True,.bool (decide (a>b)))
 | .geq=>(True,.bool (decide (a>=b)))
 | .shl=>(0<=b,.int k (k.wrap (a*2^(min b.toNat k.bits))))
 | .shr=>(0<=b,.int k (a.fdiv (2^(min b.toNat k.bits))))
theorem azp{op:ee}{k:en}{a b:Int}{K:PV->Prop}(h:(uE op k a b).1)(hk:K (uE op k a b).2):pX op k a b K:=by
 cases op<;>simp only[uE,pX]at*<;>first|exact hk|exact⟨h,hk⟩
def E7(op:ee)(a b:List Nat):Option (Prop×PV):=
 match op with
 | .add=>some (a.length+b.length<9223372036854775808,.str (a++b))
 | .eql=>some (True,.bool (a==b))
 | .neq=>some (True,.bool (!(a==b)))
 | .lss=>some (True,.bool (jo a b))
 | .leq=>some (True,.bool (jo a b||a==b))
 | .gtr=>some (True,.bool (!(jo a b||a==b)))
 | .geq=>some (True,.bool (!(jo a b)))
 |_=>none
def jx(P:dq)(op:ee)(T:dp)(c:Bool)(H:aj)(x y:AV):eC:=
 match x,y with
 | .p (.int k a),.p (.int d b)=>some ((k=d\/op=.shl\/op=.shr)/\(uE op k a b).1,{v:=.p (uE op k a b).2})
 | .p (.str a),.p (.str b)=>match E7 op a b with
  |some (p,v)=>some (p,{v:=.p v})
  |none=>none
 | .p (.bool a),.p (.bool b)=>match op with
  | .eql=>some (rB P T=true,{v:=.p (.bool (a==b))})
  | .neq=>some (rB P T=true,{v:=.p (.bool (!(a==b)))})
  |_=>none
 | .p (.st u fs),.p (.st u' gs)=>match iX P 9 T (.st u fs) (.st u' gs),op with
  |some r,.eql=>some (ux P T=true,{v:=.p (.bool r)})
  |some r,.neq=>some (ux P T=true,{v:=.p (.bool !r)})
  |_,_=>none
 |x,y=>match dC P T c y with
  |some k=>match cU H k x,op with
   |some r,.eql=>some (True,{v:=.p (.bool r),al:=dD H x})
   |some r,.neq=>some (True,{v:=.p (.bool !r),al:=dD H x})
   |_,_=>none
  |none=>none
theorem KM{op:ee}{T:dp}{c:Bool}{H:aj}{x y:AV}{k:uR}{K:PV->Prop}(hk:dC P T c y=some k):kT P op T c H x y K=(match cU H k x,op with
  |some r,.eql=>K (.bool r)
  |some r,.neq=>K (.bool !r)
  |_,_=>False):=by
 have a:=hk;rcases JY hk with⟨rfl,rfl,_⟩|⟨rfl,rfl,_⟩|⟨rfl,rfl,_⟩|⟨rfl,rfl,_⟩|⟨rfl,rfl,_⟩
 all_goals
  unfold kT;cases x with
  |p v=>
   cases v<;>simp only[a]<;>(generalize cU H _ _=r;cases r<;>cases op<;>rfl)
  |_=>simp only[a];(generalize cU H _ _=r;cases r<;>cases op<;>rfl)
theorem Z8{op:ee}{T:dp}{c:Bool}{H:aj}{x y:AV}:Can (fun K=>kT P op T c H x y (fun v=>K {v:=.p v,al:=dD H x})) (jx P op T c H x y):=by
 intro K h;unfold jx at h;unfold kT
 split at h
 ·exact⟨h.1.1,azp h.1.2 h.2⟩
 ·split at h
  ·rename_i p v a;simp only[bh]at h;show pW op _ _ _;unfold E7 at a
   split at a<;>first
    |(simp only[lv,l0]at a
      obtain⟨b,d⟩:=a;rw[<-b,<-d]at h;simp only[pW]
      first|exact h.2|exact⟨h.1,h.2⟩)
    |cases a
  ·exact h.elim
 ·split at h
  ·exact⟨h.1,h.2⟩
  ·exact⟨h.1,h.2⟩
  ·exact h.elim
 ·split at h
  ·rename_i e;simp only[bh]at h;simp only[e];exact⟨h.1,h.2⟩
  ·rename_i e;simp only[bh]at h;simp only[e];exact⟨h.1,h.2⟩
  ·exact h.elim
 ·rename_i b d f g
  split at h
  case h_2=>exact h.elim
  rename_i k hk;clear b d f g;show kT P op T c H x y _;rw[KM hk];generalize cU H k x=q at h⊢;cases q<;>cases op<;>first|exact h.elim|exact h.2
def sM(op:UnOp)(x:AV):eC:=
 match op,x with
 | .not,.p (.bool b)=>some (True,{v:=.p (.bool (!b))})
 | .neg,.p (.int k n)=>some (True,{v:=.p (.int k (k.wrap (0-n)))})
 | .xor,.p (.int k n)=>some (True,{v:=.p (.int k (k.wrap (c9 k.bits (if k.signed then -1 else k.max)^^^c9 k.bits n).toNat))})
 |_,_=>none
def rR(P:dq)(S D:dp)(H:aj)(x:AV):eC:=
 match P.underlying S,P.underlying D,x with
 |some _,some (.int k),.p (.int _ n)=>some (True,{v:=.p (.int k (k.wrap n))})
 |some _,some .string,.p (.str s)=>some (True,{v:=.p (.str s)})
 |some (.slice e),some .string,.sl b aC ai off len=>match H[b]? with
  |some (.arr k c a es)=>match bytesOf ((es.drop off).take len)with
   |some l=>some ((aC=c/\ai=a/\ai=1/\P.underlying e=some (.int .u8)/\0<len/\off+len<=es.length),{v:=.p (.str l),al:=[(b,.arr k c a es)]})
   |none=>none
  |_=>none
 |_,_,_=>none
def re(t:AV)(i:Nat):eC:=
 match t with
 | .p (.aE vs)=>match vs[i]? with
  |some v=>some (True,{v:=.p v})
  |none=>none
 | .aE vs=>match vs[i]? with
  |some v=>some (True,{v})
  |none=>none
 |_=>none
def rM(P:dq)(T:dp)(x i:AV):eC:=
 match x,i with
 | .p (.str s),.p (.int _ i)=>match s[i.toNat]? with
  |some c=>some (iK P T=true/\0<=i,{v:=.p (.int .u8 c)})
  |none=>none
 | .p (.st u es),.p (.int _ i)=>match gP P T,(jn P u)[i.toNat]?,es[i.toNat]? with
  |some (u',n),some F,some g=>some (u'=u/\0<=i/\i.toNat<n/\kindOf P F=aL g,{v:=.p g})
  |_,_,_=>none
 |_,_=>none
def sD(P:dq)(T:dp)(n:Nat)(H:aj)(x:AV):eC:=
 match lenOf H x with
 |some (m,al)=>some (il P T x=true/\0<n,{v:=.p (.int .i64 m),al})
 |none=>none
def ln(P:dq)(ag:eb->Bool)(o:Oper)(e:Env)(H:aj)(K:aY->Prop):Prop:=
 match o.op with
 | .move x| .assign x=>K {v:=ev e x}
 | .pick c a b=>bh (rY (ev e c) (ev e a) (ev e b)) K
 | .alloc T=>bh (rK P T H.length) K
 | .box T x=>bh (uq P T H.length (ev e x)) K
 | .build T parts=>bh (rI P T (parts.toList.map fun(i,x)=>(i,ev e x))) K
 | .buildSlice T n parts=>bh (qO P T n (parts.toList.map fun(i,x)=>(i,ev e x)) H.length) K
 | .load T a=>bh (pY P T H (ev e a)) K
 | .store T a x=>bh (pP P T H (ev e a) (ev e x)) K
 | .binOp op T x y _=>bh (jx P op T (mE y) H (ev e x) (ev e y)) K
 | .unOp op _ x=>bh (sM op (ev e x)) K
 | .convert S D x=>bh (rR P S D H (ev e x)) K
 | .extract t i=>bh (re (ev e t) i) K
 | .fieldAddr T a f=>bh (po P T (ev e a) f) K
 | .indexAddr T x i=>bh (pn P T H (ev e x) (ev e i)) K
 | .index T x i=>bh (rM P T (ev e x) (ev e i)) K
 | .slice T x lo hi none=>bh (pR P T H (ev e x) (lo.map (ev e)) (hi.map (ev e))) K
 | .lookup T x i ok=>bh (rV P T H (ev e x) (ev e i) ok) K
 | .mapUpdate T m k x| .insert T m k x=>bh (mC P T H (ev e m) (ev e k) (ev e x)) K
 | .range T x=>bh (rE P T H.length (ev e x)) K
 | .next it true=>bh (sc H (ev e it)) K
 | .makeSlice T l c=>bh (se P T H.length (ev e l) (ev e c)) K
 | .nilCheck x=>bh (ry (ev e x)) K
 | .call c=>match c.callee with
  | .builtin .len=>(match c.args.toList with
   |[x]=>bh (sD P (c.argTypes.getD 0 0) c.argTypes.size H (ev e x)) K
   |_=>False)
  | .builtin .append=>(match c.args.toList with
   |[s,x]=>c.argTypes.size=2/\bh (pO P (c.argTypes.getD 0 0) (c.argTypes.getD 1 0) H (ev e s) (ev e x)) K
   |_=>False)
  | .builtin .copy=>(match c.args.toList with
   |[d,x]=>c.argTypes.size=2/\bh (copyV P (c.argTypes.getD 0 0) H (ev e d) (ev e x)) K
   |_=>False)
  | .builtin .min=>bh (lj false (c.args.toList.map (ev e))) K
  | .builtin .max=>bh (lj true (c.args.toList.map (ev e))) K
  |_=>fG P ag o (ev e) H K
 |_=>fG P ag o (ev e) H K
theorem GU{a:dp}{b:Nat}{key:PV}{x:AV}{c:Obj}{K:aY->Prop}(h:bh (xc P a b key x c) K):eZ P a key=true/\mO P a b key x c K:=by
 unfold xc at h;unfold mO
 split at h
 case h_2=>exact h.elim
 rename_i e
 split at h
 case h_2=>exact h.elim
 rename_i d;simp only[e];exact⟨h.1.1,h.1.2,d,h.2⟩
theorem OT{o:Oper}{e:Env}{H:aj}{K:aY->Prop}(h:ln P ag o e H K):fG P ag o (ev e) H K:=by
 unfold ln at h;unfold fG;cases w:o.op<;>simp only[w]at h<;>simp only
 case move|assign=>exact h
 case pick c a b=>
  unfold rY at h
  split at h
  ·rename_i hc;simp only[hc];exact h.2
  ·exact h.elim
 case alloc T=>
  unfold rK at h
  split at h
  ·rename_i v;simp only[bh]at h;simp only[v];exact⟨h.1.1,h.1.2.1,h.1.2.2,h.2⟩
  ·exact h.elim
 case box T x=>exact⟨h.1.1,h.1.2.1,h.1.2.2,h.2⟩
 case build T parts=>
  unfold rI at h
  split at h
  ·rename_i hk v
   split at h
   ·rename_i B;simp only[bh]at h;simp only[hk,v,B];exact⟨h.1.1,h.1.2,h.2⟩
   ·exact h.elim
  ·exact h.elim
 case buildSlice T n parts=>
  unfold qO at h
  split at h
  ·rename_i hk v;simp only[bh]at h;simp only[hk,v];exact⟨h.1.1,h.1.2.1,h.1.2.2,h.2⟩
  ·exact h.elim
 case load T a=>exact Zd K h
 case store T a x=>exact XT K h
 case binOp op T x y N=>exact Z8 K h
 case unOp op T x=>
  unfold sM at h
  split at h
  ·rename_i hx;simp only[hx];exact h.2
  ·rename_i hx;simp only[hx];exact h.2
  ·rename_i hx;simp only[hx];exact h.2
  ·exact h.elim
 case convert S D x=>
  unfold rR at h
  split at h
  ·rename_i g j p;simp only[g,j,p];exact h.2
  ·rename_i g j p;simp only[g,j,p];exact h.2
  ·rename_i g j p
   split at h
   ·rename_i q
    split at h
    ·rename_i B;obtain⟨⟨a1,a2,a3,a4,a5,C⟩,h⟩:=h;simp only[g,j,p,q,B];exact⟨a1,a2,a3,a4,a5,C,h⟩
    ·exact h.elim
   ·exact h.elim
  ·exact h.elim
 case extract t i=>
  unfold re at h
  split at h
  ·rename_i E
   split at h
   ·rename_i F;simp only[E,F];exact h.2
   ·exact h.elim
  ·rename_i E
   split at h
   ·rename_i F;simp only[E,F];exact h.2
   ·exact h.elim
  ·exact h.elim
 case fieldAddr T a f=>exact Ue K h
 case indexAddr T x i=>exact Ud K h
 case index T x i=>
  unfold rM at h
  split at h
  ·rename_i hx hi
   split at h
   ·rename_i c hc;obtain⟨J,rfl⟩:=hV.1 hc;simp only[hx,hi];exact⟨h.1.1,h.1.2,J,h.2⟩
   ·exact h.elim
  ·rename_i hx hi
   split at h
   ·rename_i g j p;obtain⟨⟨g1,g2,g3,g4⟩,h⟩:=h;simp only[hx,hi,g,j,p];exact⟨g1,g2,g3,g4,h⟩
   ·exact h.elim
  ·exact h.elim
 case slice T x lo hi M=>
  cases M with
  |none=>exact XU K h
  |some m=>simp only[fG,w]at h;exact h
 case lookup T x i ok=>
  unfold rV at h
  split at h
  case h_2=>exact h.elim
  rename_i L hi;simp only[L,hi]
  split at h
  case h_2=>exact h.elim
  rename_i z v;simp only[v]
  split at h
  ·rename_i hx;simp only[hx];exact h
  ·rename_i O hx;simp only[hx]
   split at h
   case h_2=>exact h.elim
   rename_i r u;refine⟨h.1,?_⟩;simp only[u];cases r<;>exact h.2
  ·rename_i b hx;simp only[hx]
   split at h
   ·rename_i q
    split at h
    case h_2=>exact h.elim
    rename_i r u;refine⟨h.1,?_⟩;simp only[q,u];cases r<;>exact h.2
   ·rename_i q
    split at h
    case h_2=>exact h.elim
    rename_i r u;refine⟨h.1.1,?_⟩;simp only[q,u];refine⟨h.1.2,?_⟩;cases r<;>exact h.2
   ·exact h.elim
  ·exact h.elim
 case mapUpdate T m k x|insert T m k x=>
  unfold mC at h
  split at h
  ·rename_i g j p A;simp only[g,j,p,A]
   split at h
   ·rename_i q
    split at h
    case h_2=>exact h.elim
    rename_i u;refine⟨h.1,?_⟩;simp only[q,u];exact h.2
   ·rename_i q;have h:=GU h;refine⟨h.1,?_⟩;simp only[q];exact h.2
   ·exact h.elim
  ·rename_i R Q g j p A;simp only[g,j,p,A]
   split at h
   case h_2=>exact h.elim
   rename_i q;have h:=GU h;refine⟨h.1,?_⟩;simp only[q];exact h.2
  ·exact h.elim
 case range T x=>
  unfold rE at h
  split at h
  ·rename_i hx;simp only[hx];exact h
  ·exact h.elim
 case next it s=>
  cases s with
  |false=>simp only[fG,w]at h
  |true=>
   dsimp only at h⊢;unfold sc at h
   split at h
   case h_2=>exact h.elim
   rename_i hx;simp only[hx]
   split at h
   case h_2=>exact h.elim
   rename_i q;simp only[q];have h:=h.2
   split
   ·rename_i hc;rw[if_pos hc]at h;exact h
   ·rename_i hc;rw[if_neg hc]at h;exact h
 case makeSlice T l c=>
  unfold se at h
  split at h
  ·rename_i g j p A;simp only[g,j,p,A];exact⟨h.1.1,h.1.2.1,h.1.2.2.1,h.1.2.2.2,h.2⟩
  ·exact h.elim
 case nilCheck x=>
  unfold ry at h
  split at h
  ·rename_i hx;simp only[hx];rw[hx]at h;exact h.2
  ·rename_i hx;simp only[hx];rw[hx]at h;exact h.2
  ·rename_i hx;simp only[hx];rw[hx]at h;exact h.2
  ·exact h.elim
 case call c=>
  split at h
  ·rename_i hc
   split at h
   ·rename_i x hx;unfold sD at h
    split at h
    ·rename_i B;simp only[bh]at h;simp only[hc,hx,h0,ii,B];exact⟨h.1.1,h.1.2,h.2⟩
    ·exact h.elim
   ·exact h.elim
  ·rename_i hc
   split at h
   ·rename_i s x hx;simp only[hc,hx,h0,ii];exact⟨h.1,VF K h.2⟩
   ·exact h.elim
  ·rename_i hc
   split at h
   ·rename_i d x hx;simp only[hc,hx,h0,ii];obtain⟨I,h⟩:=h;unfold copyV at h
    split at h
    case h_2=>exact h.elim
    rename_i g j p
    split at h
    case h_2=>exact h.elim
    rename_i q;simp only[bh]at h;obtain⟨⟨⟨a1,a2⟩,a3,a4,a5,C,G⟩,hk⟩:=h;simp only[g,j,p,q];exact⟨a1,a2,I,a3,a4,a5,C,G,hk⟩
   ·exact h.elim
  ·rename_i hc;unfold lj at h
   split at h
   case h_2=>exact h.elim
   rename_i hx
   split at h
   case h_2=>exact h.elim
   rename_i u;simp only[hc,hx,u];exact h.2
  ·rename_i hc;unfold lj at h
   split at h
   case h_2=>exact h.elim
   rename_i hx
   split at h
   case h_2=>exact h.elim
   rename_i u;simp only[hc,hx,u];exact h.2
  ·unfold fG at h;simp only[w]at h;exact h
 all_goals first
  |exact h
  |(unfold fG at h
    simp only[w]at h;exact h)
  |(unfold fG at h
    simp only[w]at h)
end
section
variable{P:dq}{ag:eb->Bool}
def ey(dst:Option Tmp)(s:St)(K:St->Prop)(e:aY):Prop:=K (e.app dst s)
def A1(dst:Option Tmp)(s:St)(K:St->Prop)(v:AV)(H:aj):Prop:=K ⟨put dst v s.env,H⟩
def rS(P:dq)(f:AV)(args:List AV)(H:aj)(K:AV->aj->Prop):Prop:=
 match f with
 | .p (.func g fi ca)=>ie P false g (fi.map .p++args++ca.map .p) H K
 | .func g fi ca=>ie P false g (fi++args++ca) H K
 | .map b=>∃H' v,fx P b H args H' v/\K v H'
 |_=>False
def rH(P:dq)(f:AV)(args:List AV)(H:aj)(K:aY->Prop):Prop:=
 match f with
 | .p (.func g fi ca)=>ir P g (fi.map .p++args++ca.map .p) H K
 | .func g fi ca=>ir P g (fi++args++ca) H K
 | .map b=>∃e,oI P b args H.length e/\oM H e/\K e
 |_=>False
def dt(P:dq)(ag:eb->Bool)(o:Oper)(K:St->Prop)(s:St):Prop:=
 match o.op with
 | .call {callee:=.value f,args,.. }=>rS P (ev s.env f) (args.toList.map (ev s.env)) s.heap (A1 o.dst s K)
 |_=>ln P ag o s.env s.heap (ey o.dst s K)
def du(P:dq)(ag:eb->Bool)(o:Oper)(s:St)(K:aY->Prop):Prop:=
 match o.op with
 | .call {callee:=.value f,args,.. }=>rH P (ev s.env f) (args.toList.map (ev s.env)) s.heap K
 |_=>ln P ag o s.env s.heap K
theorem W8{o:Oper}{K:St->Prop}{s:St}(h:dt P ag o K s):jU P ag false o K s:=by
 unfold dt at h;unfold jU
 split at h
 ·rename_i f args b a;simp only[a];unfold rS at h
  split at h
  ·rename_i hf;simp only[hf];exact h
  ·rename_i hf;simp only[hf];exact h
  ·rename_i hf;simp only[hf];exact h
  ·exact h.elim
 ·rename_i c
  split
  ·rename_i f args b a;exact(c _ _ _ a).elim
  ·exact OT h
theorem Xf{o:Oper}{K:aY->Prop}{s:St}(h:du P ag o s K):jz P ag o s K:=by
 unfold du at h;unfold jz
 split at h
 ·rename_i f args b a;simp only[a];unfold rH at h
  split at h
  ·rename_i hf;simp only[hf];exact h
  ·rename_i hf;simp only[hf];exact h
  ·rename_i hf;simp only[hf];exact h
  ·exact h.elim
 ·rename_i c
  split
  ·rename_i f args b a;exact(c _ _ _ a).elim
  ·exact OT h
def gp(P:dq)(ag:eb->Bool)(a:Array Oper):List Oper->(St->Prop)->St->Prop
 |[],K,s=>K s
 |o::r,K,s=>match o.guard with
  |none=>dt P ag o (gp P ag a r K) s
  |some (j,want)=>match guardOf a j s.env with
   | .p (.bool t)=>if t=want then dt P ag o (gp P ag a r K) s else gp P ag a r K ⟨put o.dst (.p (.aE [])) s.env,s.heap⟩
   | .p (.aE [])=>gp P ag a r K ⟨put o.dst (.p (.aE [])) s.env,s.heap⟩
   |_=>False
def gF(P:dq)(ag:eb->Bool)(a:Array Oper):List Oper->Nat->List Touch->(St->Prop)->St->Prop
 |[],_,acc,K,s=>iJ a acc=true/\K s
 |o::r,i,acc,K,s=>match o.guard with
  |none=>du P ag o s fun e=>gF P ag a r (i+1) (gl i s.heap.length e acc) K (e.app o.dst s)
  |some (j,want)=>match guardOf a j s.env with
   | .p (.bool t)=>if t=want then du P ag o s fun e=>gF P ag a r (i+1) (gl i s.heap.length e acc) K (e.app o.dst s)
    else gF P ag a r (i+1) acc K ⟨put o.dst (.p (.aE [])) s.env,s.heap⟩
   | .p (.aE [])=>gF P ag a r (i+1) acc K ⟨put o.dst (.p (.aE [])) s.env,s.heap⟩
   |_=>False
theorem zo{b:Array Oper}:∀(l:List Oper){K a:St->Prop}{s:St},(∀s,K s->a s)->gp P ag b l K s->ig P ag false b l a s
 |[],K,a,s,hk,h=>by simp only[gp]at h;simp only[ig];exact hk s h
 |o::l,K,a,s,hk,h=>by
  have go:dt P ag o (gp P ag b l K) s->jU P ag false o (ig P ag false b l a) s:=fun h=>by
   obtain⟨t,f,g⟩:=Kt false o s _ (W8 h);exact g _ (zo l hk f)
  simp only[gp]at h;simp only[ig]
  split at h
  ·rename_i c;simp only[c];exact go h
  ·rename_i j i c;simp only[c]
   split at h
   ·rename_i t d;simp only[d]
    split at h
    ·rename_i e;rw[if_pos e];exact go h
    ·rename_i e;rw[if_neg e];exact zo l hk h
   ·rename_i d;simp only[d];exact zo l hk h
   ·exact h.elim
theorem yK{c:Array Oper}:∀(l:List Oper){i:Nat}{a:List Touch}{K b:St->Prop}{s:St},(∀s,K s->b s)->gF P ag c l i a K s->gD P ag c l i a b s
 |[],i,a,K,b,s,hk,h=>by simp only[gF]at h;simp only[gD];exact⟨h.1,hk s h.2⟩
 |o::l,i,a,K,b,s,hk,h=>by
  have go:du P ag o s (fun e=>gF P ag c l (i+1) (gl i s.heap.length e a) K (e.app o.dst s))->jz P ag o s (fun e=>gD P ag c l (i+1) (gl i s.heap.length e a) b (e.app o.dst s)):=fun h=>by
   obtain⟨e,k,m⟩:=Ku o s _ (Xf h);exact m _ (yK l hk k)
  simp only[gF]at h;simp only[gD]
  split at h
  ·rename_i d;simp only[d];exact go h
  ·rename_i j n d;simp only[d]
   split at h
   ·rename_i t f;simp only[f]
    split at h
    ·rename_i g;rw[if_pos g];exact go h
    ·rename_i g;rw[if_neg g];exact yK l hk h
   ·rename_i f;simp only[f];exact yK l hk h
   ·exact h.elim
def ue(v:AV)(a b:St->Prop)(s:St):Prop:=
 match v with
 | .p (.bool t)=>if t then a s else b s
 |_=>False
def uJ(K:St->Prop)(Q:bA->St->Prop)(e:bA)(s:St):Prop:=
 match e with
 | .normal=>K s
 |e=>Q e s
def dm(P:dq)(ag:eb->Bool)(q:Cx):Code->(bA->St->Prop)->St->Prop
 | .skip,Q,s| .label _,Q,s=>Q .normal s
 | .region _ ops draw,Q,s=>if draw then gF P ag ops ops.toList 0 [] (Q .normal) s else gp P ag ops ops.toList (Q .normal) s
 | .seq a b,Q,s=>dm P ag q a (uJ (dm P ag q b Q) Q) s
 | .cond c a b,Q,s=>ue (ev s.env c) (dm P ag q a Q) (dm P ag q b Q) s
 | .block id b,Q,s=>dm P ag q b (oB id Q) s
 | .scope b,Q,s=>dm P ag q b Q s
 | .loop b,Q,s=>∃I:Nat->St->Prop,(∃n t,cR q.2 s t/\I n t)/\∀n t,I n t->dm P ag q b (ua q.2 n I Q) t
 | .rangeFunc f d a b,Q,s=>q.2<=s.heap.length/\jq P (ev s.env f) s.heap.length (s.heap++[.loop ⟨.ready,none,q.1,d.toList,a,b,s.env⟩]) (iE s.heap.length s.env Q)
 | .exit id,Q,s=>Q (.exit id) s
 | .ret,Q,s=>Q .ret s
 |_,_,_=>False
theorem Xo{Q a:bA->St->Prop}(hq:∀e s,Q e s->a e s){j:Option Code}{s:St}(h:je Q j s):je a j s:=by
 unfold je at h⊢
 split at h
 ·exact hq _ _ h
 ·exact hq _ _ h
 ·exact hq _ _ h
 ·exact h.elim
theorem Kd{Q a:bA->St->Prop}(hq:∀e s,Q e s->a e s){b:Nat}{env:Env}{H:aj}(h:iE b env Q H):iE b env a H:=by
 unfold iE at h⊢
 split at h
 ·exact⟨h.1,Xo hq h.2⟩
 ·exact h.elim
theorem J9{it:AV}{b:Nat}{H:aj}{K d:aj->Prop}(hk:∀H,K H->d H)(h:jq P it b H K):jq P it b H d:=by
 unfold jq at h⊢
 split at h
 ·obtain⟨H',v,a,c⟩:=h;exact⟨H',v,a,hk _ c⟩
 ·obtain⟨H',v,a,c⟩:=h;exact⟨H',v,a,hk _ c⟩
 ·exact h.elim
theorem l7{q:Cx}:∀(c:Code){Q Q':bA->St->Prop}{s:St},(∀e s,Q e s->Q' e s)->dm P ag q c Q s->cj P ag q c Q' s
 | .skip,Q,Q',s,hq,h| .label _,Q,Q',s,hq,h=>by simp only[dm]at h;simp only[cj];exact hq _ _ h
 | .exit _,Q,Q',s,hq,h| .ret,Q,Q',s,hq,h=>by simp only[dm]at h;simp only[cj];exact hq _ _ h
 | .region id ops draw,Q,Q',s,hq,h=>by
  simp only[dm]at h;simp only[cj]
  split at h
  ·rename_i j;rw[if_pos j];exact yK _ (hq _) h
  ·rename_i j;rw[if_neg j];exact zo _ (hq _) h
 | .seq a b,Q,Q',s,hq,h=>by
  simp only[dm]at h;simp only[cj];refine l7 a (fun e s d=>?_) h;cases e with
  |normal=>exact l7 b hq d
  |exit id=>exact hq _ _ d
  |ret=>exact hq _ _ d
 | .cond c a b,Q,Q',s,hq,h=>by
  simp only[dm]at h;simp only[cj];unfold ue at h
  split at h
  ·rename_i t m;simp only[m]
   split at h
   ·rename_i g;rw[if_pos g];exact l7 a hq h
   ·rename_i g;rw[if_neg g];exact l7 b hq h
  ·exact h.elim
 | .block id b,Q,Q',s,hq,h=>by
  simp only[dm]at h;simp only[cj];refine l7 b (fun e s d=>?_) h;cases e with
  |normal=>exact hq _ _ d
  |exit i=>
   simp only[oB]at d
   by_cases hi:i=id
   ·simp only[hi,if_true]at d⊢;exact hq _ _ d
   ·simp only[hi,if_false]at d⊢;exact hq _ _ d
  |ret=>exact hq _ _ d
 | .scope b,Q,Q',s,hq,h=>by simp only[dm]at h;simp only[cj];exact l7 b hq h
 | .loop b,Q,Q',s,hq,h=>by
  simp only[dm]at h;simp only[cj];obtain⟨I,k,l⟩:=h;refine⟨I,k,fun n t hI=>l7 b (fun e s d=>?_) (l n t hI)⟩;cases e with
  |normal=>exact d
  |exit id=>exact hq _ _ d
  |ret=>exact hq _ _ d
 | .rangeFunc f o a b,Q,Q',s,hq,h=>by
  simp only[dm]at h;simp only[cj];exact⟨h.1,s.env,fun _=>rfl,J9 (fun H=>Kd hq) h.2⟩
 | .goto _,_,_,_,_,h| .refuse _,_,_,_,_,h=>by simp[dm]at h
end
section
variable{P:dq}{ag:eb->Bool}{q:Cx}
theorem N9{Q:bA->St->Prop}{s:St}:dm P ag q .skip Q s=Q .normal s:=(rfl)
theorem MN{l:Nat}{Q:bA->St->Prop}{s:St}:dm P ag q (.label l) Q s=Q .normal s:=(rfl)
theorem Oa{id:Nat}{Q:bA->St->Prop}{s:St}:dm P ag q (.exit id) Q s=Q (.exit id) s:=(rfl)
theorem R0{Q:bA->St->Prop}{s:St}:dm P ag q .ret Q s=Q .ret s:=(rfl)
theorem ML{b:Code}{Q:bA->St->Prop}{s:St}:dm P ag q (.scope b) Q s=dm P ag q b Q s:=(rfl)
theorem Ob{id:Nat}{l:List Oper}{Q:bA->St->Prop}{s:St}:dm P ag q (.region id l.toArray true) Q s=gF P ag l.toArray l 0 [] (Q .normal) s:=by simp[dm]
theorem MM{id:Nat}{l:List Oper}{Q:bA->St->Prop}{s:St}:dm P ag q (.region id l.toArray false) Q s=gp P ag l.toArray l (Q .normal) s:=by simp[dm]
theorem R3{a b:Code}{Q:bA->St->Prop}{s:St}:dm P ag q (.seq a b) Q s=dm P ag q a (uJ (dm P ag q b Q) Q) s:=(rfl)
theorem MO{id:Nat}{b:Code}{Q:bA->St->Prop}{s:St}:dm P ag q (.block id b) Q s=dm P ag q b (oB id Q) s:=(rfl)
theorem Oc{c:dl}{a b:Code}{Q:bA->St->Prop}{s:St}:dm P ag q (.cond c a b) Q s=ue (ev s.env c) (dm P ag q a Q) (dm P ag q b Q) s:=(rfl)
theorem Jh{K:St->Prop}{Q:bA->St->Prop}{s:St}:uJ K Q .normal s=K s:=(rfl)
theorem Kw{id:Nat}{K:St->Prop}{Q:bA->St->Prop}{s:St}:uJ K Q (.exit id) s=Q (.exit id) s:=(rfl)
theorem Ls{K:St->Prop}{Q:bA->St->Prop}{s:St}:uJ K Q .ret s=Q .ret s:=(rfl)
theorem JC{t:Bool}{a b:St->Prop}{s:St}:ue (.p (.bool t)) a b s=if t then a s else b s:=(rfl)
def wR(P:dq)(ag:eb->Bool)(b:Array Oper)(r:List Oper)(i:Nat)(a:List Touch)(K:St->Prop)(dst:Option Tmp)(s:St)(e:aY):Prop:=
 gF P ag b r (i+1) (gl i s.heap.length e a) K (e.app dst s)
theorem LW{b:Array Oper}{r:List Oper}{i:Nat}{a:List Touch}{K:St->Prop}{dst:Option Tmp}{env:Env}{heap:aj}{v:AV}{al aK:List (Nat×Obj)}{aX:List Obj}:
 wR P ag b r i a K dst ⟨env,heap⟩ ⟨v,al,aK,aX⟩=gF P ag b r (i+1) (gl i heap.length ⟨v,al,aK,aX⟩ a) K ⟨put dst v env,bc heap aK++aX⟩:=(rfl)
theorem NG{dst:Option Tmp}{env:Env}{heap:aj}{K:St->Prop}{v:AV}{al aK:List (Nat×Obj)}{aX:List Obj}:ey dst ⟨env,heap⟩ K ⟨v,al,aK,aX⟩=K ⟨put dst v env,bc heap aK++aX⟩:=(rfl)
theorem Nc{dst:Option Tmp}{env:Env}{heap H:aj}{K:St->Prop}{v:AV}:A1 dst ⟨env,heap⟩ K v H=K ⟨put dst v env,H⟩:=(rfl)
def zx(P:dq)(ag:eb->Bool)(b:Array Oper)(o:Oper)(r:List Oper)(i:Nat)(a:List Touch)(K:St->Prop)(c:Bool)(s:St)(g:AV):Prop:=
 match g with
 | .p (.bool t)=>if t=c then du P ag o s (wR P ag b r i a K o.dst s)else gF P ag b r (i+1) a K ⟨put o.dst (.p (.aE [])) s.env,s.heap⟩
 | .p (.aE [])=>gF P ag b r (i+1) a K ⟨put o.dst (.p (.aE [])) s.env,s.heap⟩
 |_=>False
def zM(P:dq)(ag:eb->Bool)(a:Array Oper)(o:Oper)(r:List Oper)(K:St->Prop)(b:Bool)(s:St)(g:AV):Prop:=
 match g with
 | .p (.bool t)=>if t=b then dt P ag o (gp P ag a r K) s else gp P ag a r K ⟨put o.dst (.p (.aE [])) s.env,s.heap⟩
 | .p (.aE [])=>gp P ag a r K ⟨put o.dst (.p (.aE [])) s.env,s.heap⟩
 |_=>False
theorem N8{b:Array Oper}{i:Nat}{a:List Touch}{K:St->Prop}{s:St}:gF P ag b [] i a K s=(iJ b a=true/\K s):=(rfl)
theorem MK{b:Array Oper}{i c:Nat}{pos:String}{a:List Touch}{K:St->Prop}{s:St}{dst:Option Tmp}{op:Op}{af:Array Edge}{r:List Oper}:
 gF P ag b ({dst,op,type:=c,pos,after:=af,guard:=none}::r) i a K s=du P ag {dst,op,type:=c,pos,after:=af,guard:=none} s (wR P ag b r i a K dst s):=(rfl)
theorem Ly{a:Array Oper}{i d j:Nat}{b:Bool}{pos:String}{c:List Touch}{K:St->Prop}{s:St}{dst:Option Tmp}{op:Op}{af:Array Edge}{r:List Oper}:
 gF P ag a ({dst,op,type:=d,pos,after:=af,guard:=some (j,b)}::r) i c K s=zx P ag a {dst,op,type:=d,pos,after:=af,guard:=some (j,b)} r i c K b s (guardOf a j s.env):=(rfl)
theorem N6{a:Array Oper}{K:St->Prop}{s:St}:gp P ag a [] K s=K s:=(rfl)
theorem MI{a:Array Oper}{b:Nat}{pos:String}{K:St->Prop}{s:St}{dst:Option Tmp}{op:Op}{af:Array Edge}{r:List Oper}:
 gp P ag a ({dst,op,type:=b,pos,after:=af,guard:=none}::r) K s=dt P ag {dst,op,type:=b,pos,after:=af,guard:=none} (gp P ag a r K) s:=(rfl)
theorem Lx{a:Array Oper}{c j:Nat}{b:Bool}{pos:String}{K:St->Prop}{s:St}{dst:Option Tmp}{op:Op}{af:Array Edge}{r:List Oper}:
 gp P ag a ({dst,op,type:=c,pos,after:=af,guard:=some (j,b)}::r) K s=zM P ag a {dst,op,type:=c,pos,after:=af,guard:=some (j,b)} r K b s (guardOf a j s.env):=(rfl)
end
section Et
variable{P:dq}{ag:eb->Bool}{q:Cx}
end Et
section ops
variable{P:dq}{ag:eb->Bool}{dst:Option Tmp}{ty:Nat}{pos:String}{af:Array Edge}{g:Option (Nat×Bool)}{env:Env}{heap:aj}{K:aY->Prop}{L:St->Prop}
theorem Pt{x:dl}:du P ag ⟨dst,.move x,ty,pos,af,g⟩ ⟨env,heap⟩ K=K {v:=ev env x}:=(rfl)
theorem LU{x:dl}:du P ag ⟨dst,.assign x,ty,pos,af,g⟩ ⟨env,heap⟩ K=K {v:=ev env x}:=(rfl)
theorem Pr{c a b:dl}:du P ag ⟨dst,.pick c a b,ty,pos,af,g⟩ ⟨env,heap⟩ K=bh (rY (ev env c) (ev env a) (ev env b)) K:=(rfl)
theorem Nq{T:dp}:du P ag ⟨dst,.alloc T,ty,pos,af,g⟩ ⟨env,heap⟩ K=bh (rK P T heap.length) K:=(rfl)
theorem Qe{T:dp}{x:dl}:du P ag ⟨dst,.box T x,ty,pos,af,g⟩ ⟨env,heap⟩ K=bh (uq P T heap.length (ev env x)) K:=(rfl)
theorem Np{T:dp}{a:Array (Nat×dl)}:du P ag ⟨dst,.build T a,ty,pos,af,g⟩ ⟨env,heap⟩ K=bh (rI P T (a.toList.map fun(i,x)=>(i,ev env x))) K:=(rfl)
theorem IP{T:dp}{n:Nat}{a:Array (Nat×dl)}:du P ag ⟨dst,.buildSlice T n a,ty,pos,af,g⟩ ⟨env,heap⟩ K=bh (qO P T n (a.toList.map fun(i,x)=>(i,ev env x)) heap.length) K:=(rfl)
theorem O2{T:dp}{a:dl}:du P ag ⟨dst,.load T a,ty,pos,af,g⟩ ⟨env,heap⟩ K=bh (pY P T heap (ev env a)) K:=(rfl)
theorem Nk{T:dp}{a x:dl}:du P ag ⟨dst,.store T a x,ty,pos,af,g⟩ ⟨env,heap⟩ K=bh (pP P T heap (ev env a) (ev env x)) K:=(rfl)
theorem Qd{op:ee}{T a:dp}{x y:dl}:du P ag ⟨dst,.binOp op T x y a,ty,pos,af,g⟩ ⟨env,heap⟩ K=bh (jx P op T (mE y) heap (ev env x) (ev env y)) K:=(rfl)
theorem Qi{op:UnOp}{T:dp}{x:dl}:du P ag ⟨dst,.unOp op T x,ty,pos,af,g⟩ ⟨env,heap⟩ K=bh (sM op (ev env x)) K:=(rfl)
theorem O4{S D:dp}{x:dl}:du P ag ⟨dst,.convert S D x,ty,pos,af,g⟩ ⟨env,heap⟩ K=bh (rR P S D heap (ev env x)) K:=(rfl)
theorem K2{t:dl}{i:Nat}:du P ag ⟨dst,.extract t i,ty,pos,af,g⟩ ⟨env,heap⟩ K=bh (re (ev env t) i) K:=(rfl)
theorem Jj{T:dp}{a:dl}{f:Nat}:du P ag ⟨dst,.fieldAddr T a f,ty,pos,af,g⟩ ⟨env,heap⟩ K=bh (po P T (ev env a) f) K:=(rfl)
theorem Ji{T:dp}{x i:dl}:du P ag ⟨dst,.indexAddr T x i,ty,pos,af,g⟩ ⟨env,heap⟩ K=bh (pn P T heap (ev env x) (ev env i)) K:=(rfl)
theorem Nn{T:dp}{x i:dl}:du P ag ⟨dst,.index T x i,ty,pos,af,g⟩ ⟨env,heap⟩ K=bh (rM P T (ev env x) (ev env i)) K:=(rfl)
theorem Qf{x:dl}{a:Array dp}:du P ag ⟨dst,.call {callee:=.builtin .len,args:=#[x],argTypes:=a},ty,pos,af,g⟩ ⟨env,heap⟩ K=bh (sD P (a.getD 0 0) a.size heap (ev env x)) K:=(rfl)
theorem O5{f:dl}{args:List dl}{a:Array dp}:du P ag ⟨dst,.call {callee:=.value f,args:=args.toArray,argTypes:=a},ty,pos,af,g⟩ ⟨env,heap⟩ K=rH P (ev env f) (args.map (ev env)) heap K:=(rfl)
theorem OM{x:dl}:dt P ag ⟨dst,.move x,ty,pos,af,g⟩ L ⟨env,heap⟩=ey dst ⟨env,heap⟩ L {v:=ev env x}:=(rfl)
theorem La{x:dl}:dt P ag ⟨dst,.assign x,ty,pos,af,g⟩ L ⟨env,heap⟩=ey dst ⟨env,heap⟩ L {v:=ev env x}:=(rfl)
theorem OK{c a b:dl}:dt P ag ⟨dst,.pick c a b,ty,pos,af,g⟩ L ⟨env,heap⟩=bh (rY (ev env c) (ev env a) (ev env b)) (ey dst ⟨env,heap⟩ L):=(rfl)
theorem MX{T:dp}:dt P ag ⟨dst,.alloc T,ty,pos,af,g⟩ L ⟨env,heap⟩=bh (rK P T heap.length) (ey dst ⟨env,heap⟩ L):=(rfl)
theorem Rp{T:dp}{x:dl}:dt P ag ⟨dst,.box T x,ty,pos,af,g⟩ L ⟨env,heap⟩=bh (uq P T heap.length (ev env x)) (ey dst ⟨env,heap⟩ L):=(rfl)
theorem MW{T:dp}{a:Array (Nat×dl)}:dt P ag ⟨dst,.build T a,ty,pos,af,g⟩ L ⟨env,heap⟩=bh (rI P T (a.toList.map fun(i,x)=>(i,ev env x))) (ey dst ⟨env,heap⟩ L):=(rfl)
theorem II{T:dp}{n:Nat}{a:Array (Nat×dl)}:dt P ag ⟨dst,.buildSlice T n a,ty,pos,af,g⟩ L ⟨env,heap⟩=bh (qO P T n (a.toList.map fun(i,x)=>(i,ev env x)) heap.length) (ey dst ⟨env,heap⟩ L):=(rfl)
theorem ON{T:dp}{a:dl}:dt P ag ⟨dst,.load T a,ty,pos,af,g⟩ L ⟨env,heap⟩=bh (pY P T heap (ev env a)) (ey dst ⟨env,heap⟩ L):=(rfl)
theorem Nf{T:dp}{a x:dl}:dt P ag ⟨dst,.store T a x,ty,pos,af,g⟩ L ⟨env,heap⟩=bh (pP P T heap (ev env a) (ev env x)) (ey dst ⟨env,heap⟩ L):=(rfl)
theorem Ro{op:ee}{T a:dp}{x y:dl}:dt P ag ⟨dst,.binOp op T x y a,ty,pos,af,g⟩ L ⟨env,heap⟩=bh (jx P op T (mE y) heap (ev env x) (ev env y)) (ey dst ⟨env,heap⟩ L):=(rfl)
theorem Rt{op:UnOp}{T:dp}{x:dl}:dt P ag ⟨dst,.unOp op T x,ty,pos,af,g⟩ L ⟨env,heap⟩=bh (sM op (ev env x)) (ey dst ⟨env,heap⟩ L):=(rfl)
theorem OP{S D:dp}{x:dl}:dt P ag ⟨dst,.convert S D x,ty,pos,af,g⟩ L ⟨env,heap⟩=bh (rR P S D heap (ev env x)) (ey dst ⟨env,heap⟩ L):=(rfl)
theorem Kc{t:dl}{i:Nat}:dt P ag ⟨dst,.extract t i,ty,pos,af,g⟩ L ⟨env,heap⟩=bh (re (ev env t) i) (ey dst ⟨env,heap⟩ L):=(rfl)
theorem I9{T:dp}{a:dl}{f:Nat}:dt P ag ⟨dst,.fieldAddr T a f,ty,pos,af,g⟩ L ⟨env,heap⟩=bh (po P T (ev env a) f) (ey dst ⟨env,heap⟩ L):=(rfl)
theorem I8{T:dp}{x i:dl}:dt P ag ⟨dst,.indexAddr T x i,ty,pos,af,g⟩ L ⟨env,heap⟩=bh (pn P T heap (ev env x) (ev env i)) (ey dst ⟨env,heap⟩ L):=(rfl)
theorem MV{T:dp}{x i:dl}:dt P ag ⟨dst,.index T x i,ty,pos,af,g⟩ L ⟨env,heap⟩=bh (rM P T (ev env x) (ev env i)) (ey dst ⟨env,heap⟩ L):=(rfl)
theorem Rq{x:dl}{a:Array dp}:dt P ag ⟨dst,.call {callee:=.builtin .len,args:=#[x],argTypes:=a},ty,pos,af,g⟩ L ⟨env,heap⟩=bh (sD P (a.getD 0 0) a.size heap (ev env x)) (ey dst ⟨env,heap⟩ L):=(rfl)
theorem OQ{f:dl}{args:List dl}{a:Array dp}:dt P ag ⟨dst,.call {callee:=.value f,args:=args.toArray,argTypes:=a},ty,pos,af,g⟩ L ⟨env,heap⟩=rS P (ev env f) (args.map (ev env)) heap (A1 dst ⟨env,heap⟩ L):=(rfl)
theorem Nl{T:dp}{x:dl}{lo hi:Option dl}:du P ag ⟨dst,.slice T x lo hi none,ty,pos,af,g⟩ ⟨env,heap⟩ K=bh (pR P T heap (ev env x) (lo.map (ev env)) (hi.map (ev env))) K:=(rfl)
theorem MT{T:dp}{x:dl}{lo hi:Option dl}:dt P ag ⟨dst,.slice T x lo hi none,ty,pos,af,g⟩ L ⟨env,heap⟩=bh (pR P T heap (ev env x) (lo.map (ev env)) (hi.map (ev env))) (ey dst ⟨env,heap⟩ L):=(rfl)
theorem LR{T:dp}{x i:dl}{ok:Bool}:du P ag ⟨dst,.lookup T x i ok,ty,pos,af,g⟩ ⟨env,heap⟩ K=bh (rV P T heap (ev env x) (ev env i) ok) K:=(rfl)
theorem K8{T:dp}{x i:dl}{ok:Bool}:dt P ag ⟨dst,.lookup T x i ok,ty,pos,af,g⟩ L ⟨env,heap⟩=bh (rV P T heap (ev env x) (ev env i) ok) (ey dst ⟨env,heap⟩ L):=(rfl)
theorem Jv{T:dp}{m k x:dl}:du P ag ⟨dst,.mapUpdate T m k x,ty,pos,af,g⟩ ⟨env,heap⟩ K=bh (mC P T heap (ev env m) (ev env k) (ev env x)) K:=(rfl)
theorem I6{T:dp}{m k x:dl}:dt P ag ⟨dst,.mapUpdate T m k x,ty,pos,af,g⟩ L ⟨env,heap⟩=bh (mC P T heap (ev env m) (ev env k) (ev env x)) (ey dst ⟨env,heap⟩ L):=(rfl)
theorem LS{T:dp}{m k x:dl}:du P ag ⟨dst,.insert T m k x,ty,pos,af,g⟩ ⟨env,heap⟩ K=bh (mC P T heap (ev env m) (ev env k) (ev env x)) K:=(rfl)
theorem K9{T:dp}{m k x:dl}:dt P ag ⟨dst,.insert T m k x,ty,pos,af,g⟩ L ⟨env,heap⟩=bh (mC P T heap (ev env m) (ev env k) (ev env x)) (ey dst ⟨env,heap⟩ L):=(rfl)
theorem HO{T:dp}{x:dl}:du P ag ⟨dst,.range T x,ty,pos,af,g⟩ ⟨env,heap⟩ K=bh (rE P T heap.length (ev env x)) K:=(rfl)
theorem MU{T:dp}{x:dl}:dt P ag ⟨dst,.range T x,ty,pos,af,g⟩ L ⟨env,heap⟩=bh (rE P T heap.length (ev env x)) (ey dst ⟨env,heap⟩ L):=(rfl)
theorem Ps{it:dl}:du P ag ⟨dst,.next it true,ty,pos,af,g⟩ ⟨env,heap⟩ K=bh (sc heap (ev env it)) K:=(rfl)
theorem OL{it:dl}:dt P ag ⟨dst,.next it true,ty,pos,af,g⟩ L ⟨env,heap⟩=bh (sc heap (ev env it)) (ey dst ⟨env,heap⟩ L):=(rfl)
theorem Jw{T:dp}{l c:dl}:du P ag ⟨dst,.makeSlice T l c,ty,pos,af,g⟩ ⟨env,heap⟩ K=bh (se P T heap.length (ev env l) (ev env c)) K:=(rfl)
theorem I7{T:dp}{l c:dl}:dt P ag ⟨dst,.makeSlice T l c,ty,pos,af,g⟩ L ⟨env,heap⟩=bh (se P T heap.length (ev env l) (ev env c)) (ey dst ⟨env,heap⟩ L):=(rfl)
theorem Jz{x:dl}:du P ag ⟨dst,.nilCheck x,ty,pos,af,g⟩ ⟨env,heap⟩ K=bh (ry (ev env x)) K:=(rfl)
theorem JV{x:dl}:dt P ag ⟨dst,.nilCheck x,ty,pos,af,g⟩ L ⟨env,heap⟩=bh (ry (ev env x)) (ey dst ⟨env,heap⟩ L):=(rfl)
theorem Qh{args:Array dl}{a:Array dp}:du P ag ⟨dst,.call {callee:=.builtin .min,args,argTypes:=a},ty,pos,af,g⟩ ⟨env,heap⟩ K=bh (lj false (args.toList.map (ev env))) K:=(rfl)
theorem Rs{args:Array dl}{a:Array dp}:dt P ag ⟨dst,.call {callee:=.builtin .min,args,argTypes:=a},ty,pos,af,g⟩ L ⟨env,heap⟩=bh (lj false (args.toList.map (ev env))) (ey dst ⟨env,heap⟩ L):=(rfl)
theorem Qg{args:Array dl}{a:Array dp}:du P ag ⟨dst,.call {callee:=.builtin .max,args,argTypes:=a},ty,pos,af,g⟩ ⟨env,heap⟩ K=bh (lj true (args.toList.map (ev env))) K:=(rfl)
theorem Rr{args:Array dl}{a:Array dp}:dt P ag ⟨dst,.call {callee:=.builtin .max,args,argTypes:=a},ty,pos,af,g⟩ L ⟨env,heap⟩=bh (lj true (args.toList.map (ev env))) (ey dst ⟨env,heap⟩ L):=(rfl)
theorem K1{T:dp}:du P ag ⟨dst,.makeMap T none,ty,pos,af,g⟩ ⟨env,heap⟩ K=K {v:=.map heap.length,aX:=[.map false []]}:=(rfl)
theorem KJ{T:dp}:dt P ag ⟨dst,.makeMap T none,ty,pos,af,g⟩ L ⟨env,heap⟩=ey dst ⟨env,heap⟩ L {v:=.map heap.length,aX:=[.map false []]}:=(rfl)
theorem LV{s x:dl}{T X:dp}:du P ag ⟨dst,.call {callee:=.builtin .append,args:=#[s,x],argTypes:=#[T,X]},ty,pos,af,g⟩ ⟨env,heap⟩ K=bh (pO P T X heap (ev env s) (ev env x)) K:=by simp[du,ln]
theorem Lb{s x:dl}{T X:dp}:dt P ag ⟨dst,.call {callee:=.builtin .append,args:=#[s,x],argTypes:=#[T,X]},ty,pos,af,g⟩ L ⟨env,heap⟩=bh (pO P T X heap (ev env s) (ev env x)) (ey dst ⟨env,heap⟩ L):=by simp[dt,ln]
theorem O3{s x:dl}{T X:dp}:du P ag ⟨dst,.call {callee:=.builtin .copy,args:=#[s,x],argTypes:=#[T,X]},ty,pos,af,g⟩ ⟨env,heap⟩ K=bh (copyV P T heap (ev env s) (ev env x)) K:=by simp[du,ln]
theorem OO{s x:dl}{T X:dp}:dt P ag ⟨dst,.call {callee:=.builtin .copy,args:=#[s,x],argTypes:=#[T,X]},ty,pos,af,g⟩ L ⟨env,heap⟩=bh (copyV P T heap (ev env s) (ev env x)) (ey dst ⟨env,heap⟩ L):=by simp[dt,ln]
theorem Qa{f:eb}{fi ca:List AV}{args:List AV}{M:AV->aj->Prop}:rS P (.func f fi ca) args heap M=ie P false f (fi++args++ca) heap M:=(rfl)
theorem O6{f:eb}{fi ca:List AV}{args:List AV}:rH P (.func f fi ca) args heap K=ir P f (fi++args++ca) heap K:=(rfl)
theorem Qb{f:eb}{fi ca:List PV}{args:List AV}{M:AV->aj->Prop}:rS P (.p (.func f fi ca)) args heap M=ie P false f (fi.map .p++args++ca.map .p) heap M:=(rfl)
theorem Qc{f:eb}{fi ca:List PV}{args:List AV}:rH P (.p (.func f fi ca)) args heap K=ir P f (fi.map .p++args++ca.map .p) heap K:=(rfl)
end ops
section
variable{P:dq}
@[simp] theorem aON{b:Bool}:aL (.bool b)=.leaf:=(rfl)
@[simp] theorem aPi{k:en}{n:Int}:aL (.int k n)=.leaf:=(rfl)
@[simp] theorem aPo{l:List Nat}:aL (.str l)=.leaf:=(rfl)
@[simp] theorem aPk:aL .aO=.leaf:=(rfl)
@[simp] theorem aPl{l:List PV}:aL (.seq l)=.leaf:=(rfl)
@[simp] theorem aPh{l:List (PV×PV)}:aL (.eg l)=.leaf:=(rfl)
@[simp] theorem aPj:aL .gU=.leaf:=(rfl)
@[simp] theorem aPn{u:dp}{fs:List PV}:aL (.st u fs)=.agg u:=(rfl)
@[simp] theorem aOK{v:PV}:aa (.p v)=aL v:=(rfl)
@[simp] theorem aOM{u:dp}{fs:List AV}:aa (.st u fs)=.agg u:=(rfl)
@[simp] theorem aOL{b v e o l:Nat}:aa (.sl b v e o l)=.leaf:=(rfl)
@[simp] theorem aOJ{f:eb}{a b:List AV}:aa (.func f a b)=.leaf:=(rfl)
@[simp] theorem aNF{u:dp}{fs:List PV}:bY (.st u fs)=fs:=(rfl)
theorem Xe{a:List eq}{Q:PV->Prop}{s:St}:Aq P a Q .ret s=∃vs,fL P s a=some vs/\∃v,eB s.heap 9 (oneOf vs)=some v/\Q v:=by simp[Aq]
theorem U1{a:List eq}{Q:PV->Prop}{s:St}:Aq P a Q .normal s=∃vs,fL P s a=some vs/\∃v,eB s.heap 9 (oneOf vs)=some v/\Q v:=by simp[Aq]
attribute [simp] Xe U1 jv N9 MN Oa R0 ML Ob MM R3 MO Oc Jh Kw Ls JC LW NG Nc N8 MK N6 MI Ly Lx
 Pt LU Pr Nq Qe Np IP O2 Nk Qd Qi O4 K2 Jj Ji Nn Qf O5
 OM La OK MX Rp MW II ON Nf Ro Rt OP Kc I9 I8 MV Rq OQ Qb Qc Nl MT LR K8 Jv I6 LS K9 HO MU Ps OL Jw I7 Jz JV Qh Rs Qg Rr K1 KJ LV Lb O3 OO Qa O6 pO ld pR rV mC xc pc jI lG nI rE sc se copyV ry lj gY dD fa eZ jw oR mq tR gk iK mg Ws W3
 Uh VA WE T6 UO Wi
 aP put iT ev ofConst bc gl ia oi eX lA ga iw eQ rY rK uq jy rI qO jx uE E7 sM rR re rM sD pY pP po pn lenOf il iI mf bG
 mE fL pS oneOf eB
end
end Go.aq
