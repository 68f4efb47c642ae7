import Derived.Test.YtfdgnogcckoalaaGreatDoorXThA
import Derived.Lib.Strings
import Derived.Laws.Append
import Derived.Laws.StructEq
import Derived.Laws.Concat
import Derived.ChangeKeysEq
import Derived.MapKept
import Derived.Laws.RangeString
import Derived.Lib.UnsafeStr
import Derived.Laws.BytesArg
import Derived.Orders
/- Parts of a proof. -/
set_option linter.unusedSimpArgs false
set_option linter.unusedVariables false
set_option linter.unusedSectionVars false
open Array renaming getElem?_eq_some_iff->b2, getElem?_eq_getElem->b3, ext'->b4, getElem?_toList->b5, length_toList->cb, replicate->cc, toList_push->ce, getD_eq_getD_getElem?->ck, getElem?_push->cv, getD->cx
open BitVec renaming ofInt->cy
open Bool renaming and_eq_true->cE, or_eq_true->cN, false_eq_true->cR
open Go renaming run_underlying->c6, Operand->c7, TypeId->c8, Program->c9, Value->da, execOp->db, FuncId->dg, World->dk, MapEntry->dl, BinOp->dp, setRow_other->dq, run_storeCells_at->dz, setRow_heap->ea, IntKind->eb, TypeInfo->ec, ResultVar->ed, Frame->ee, Field->ei, Deferred->ej, step_leave_returned->en, run_firstCells_some->eo, mem_ready->eq, TypeDesc->et, getD_set_ne->ew, Steps->ez
open Go.Builtin renaming firstCells->e6, append_->e7, lenOf->e8, zeroCells->e9, clear_->fb, copy_->fd, unsafeString_->fl, nextslicecap->fm, min2->fv, max2->fZ, unsafeSliceData_->gb, min_->gc, max_->ge, cap_->gg
open Go.ByteArray renaming toList_eq->gi
open Go.Call renaming operands->gj
open Go.Instr renaming findNow->gl, sliceBounds->gm, findAsking->gt, checkKey->gx, slice->gy, findKey->g0, mapUpdate->g7, sliceBound->g8, lookup->g9, sliceAt->ha, sameNow->hb, next->hd
open Go.MapKept renaming run_getObj_map->he, bytes_beq->hg
open Go.Op renaming operands->hh, equalIn->hj, equal->hm, bytesLess->ho, eqFields->hp, eqItems->hr, stringOp->ht
open Go.Region renaming ready->hv, wanted->hw, binds->hz, schedule->hA
open Go.Region.linearise renaming go->hB
open Go.Result renaming andThen_ok->hC, andThen->hD
open Go.Sem renaming run_bind->hE, run_pure->hF, run->hG
open Go.Steps renaming one->hH, trans->hK, refl->hL
open Go.Utf8 renaming decode->hM
open Go.Value renaming oneCell'->hN, int->hO
open Go.World renaming freeze->hP, cell?->hQ
open List renaming getElem?_eq_some_iff->hR, getElem?_set_self->hS, length_append->hT, replicate->hU, map_cons->hV, append_nil->hW, mem_cons->hX, getElem?_eq_getElem->hZ, mem_of_mem_take->h0, mem_cons_of_mem->h2, getElem?_set_ne->h3, length_eq_zero_iff->h4, map_append->h5, mem_of_mem_drop->h6, map_nil->h7, all_eq_true->h8, size_toArray->h9, append_assoc->ih, contains_iff_mem->ii, any_eq_true->ik, flatten_append->ip, mem_singleton->ix, getElem?_append_left->iz, map_toArray->i0, take_of_length_le->i4, range->i5, map_map->i6, nil_append->i7, mem_append->i8, getElem?_eq_none->i9, drop_take->jp, replicate_succ->js, map_congr_left->j1, length_pos_iff->j2, getElem?_map->j3, length->j4, drop_zero->j5, map->j6, take_succ_cons->j7, mem_map_of_mem->j8, countP_congr->j9, countP_cons->kc, length_map->kd, sum_cons->kh, map_take->kk, mem_map->km, map_id->ko
open Nat renaming le_refl->kp, lt_irrefl->kt, lt_trichotomy->kv, add_zero->kw, zero_add->kz, le_add_right->la, add_mul->lb, zero_le->lc, strongRecOn->le, zero_mul->li, succ_mul->lk, ne_of_lt->ll, le_total->lm
open Ne renaming symm->ln
open Option renaming isSome_iff_exists->lq, map_none->ls, getD_some->lt, map_some->lu
open Option.some renaming injEq->lv, inj->lw
open PUnit renaming unit->lz
open Prod.mk renaming injEq->l0
open UInt8 renaming toNat_ofNat'->l1, toNat_inj->l2, ofNat->l3
namespace Go.aw
set_option linter.unusedSectionVars false
variable[Gl]
section
variable{P:c9}{w:dk}{aa ag:Nat->Prop}{β:Bd}{H:Heap}
variable{o:Oper}{ρ:c7->AV}{base:Nat}
theorem j0{x:Option c7}{d:Nat}{R:Nat->Prop}(h:gB (x.map ρ) d R):
 ∃n,R n/\((x=none/\n=d)\/∃y k,x=some y/\ρ y=.p (.int k n)):=by
 cases x with
 |none=>exact⟨d,h,.inl ⟨rfl,rfl⟩⟩
 |some y=>
  simp only[lu,gB]at h
  split at h
  ·rename_i hx;cases hx
  ·rename_i k i hx;simp at hx;obtain⟨a,h⟩:=h;refine⟨i.toNat,h,.inr ⟨y,k,rfl,?_⟩⟩;rw[hx,Int.toNat_of_nonneg a]
  ·exact h.elim
theorem rT{lo hi:Option c7}{ρc:c7->da}{b:Bool}{len cap d h l:Nat}(m:d=len)(n:(hi=none/\h=d)\/∃y k,hi=some y/\ρ y= .p (.int k h))(hl:(lo=none/\l=0)\/∃y k,lo=some y/\ρ y= .p (.int k l))
 (f:h<=cap)(g:l<=h)(e:∀y,(hi=some y\/lo=some y)->ar P w aa β H (ρ y) (ρc y)):(gm b len cap (lo.map ρc) (hi.map ρc) none).run P w=.ok (l,h,cap) w:=by
 subst m;rcases n with⟨rfl,rfl⟩|⟨y,k,rfl,i⟩<;>rcases hl with⟨rfl,rfl⟩|⟨z,o,rfl,j⟩
 ·simp[gm]
 ·have c:=e z (.inr rfl);rw[j]at c;simp only[ar,aA]at c;simp[gm,c,g8,asIntOf,g]
 ·have a:=e y (.inl rfl);rw[i]at a;simp only[ar,aA]at a;simp[gm,a,g8,asIntOf,f]
 ·have a:=e y (.inl rfl);rw[i]at a;simp only[ar,aA]at a;have c:=e z (.inr rfl);rw[j]at c;simp only[ar,aA]at c;simp[gm,a,c,g8,asIntOf,f,g]
theorem rP{T e:c8}(b:P.underlying T=some (.slice e))(x:da)(lo hi a:Option da)(w:dk):(ha T x lo hi a).run P w=(gy T x lo hi a).run P w:=by
 simp only[ha,hE,c6 b,hC]
theorem Sc{T:c8}(b:P.underlying T=some .string)(x:da)(lo hi a:Option da)(w:dk):(ha T x lo hi a).run P w=(gy T x lo hi a).run P w:=by
 simp only[ha,hE,c6 b,hC]
theorem oI{T:c8}{x y:c7}{lo hi b:Option c7}(a:o.op=.slice T x lo hi b)(h:hi=some y\/lo=some y):y∈o.op.operands:=by
 rw[a];simp only[hh];rcases h with rfl|rfl<;>simp
theorem xa{T:c8}(h:iu P T=true):P.underlying T=some .string:=by
 unfold iu at h
 split at h
 ·assumption
 ·simp at h
theorem uk{ai:Nat}:∀{l:List AV},fc P ai l↔∀v∈l,ad v≠.bad/\bB P (ad v)=ai
 |[]=>by simp[fc]
 |v::l=>by simp[fc,uk (l:=l)]
theorem sr{sz ai:Nat}{a:List AV}{d:List (List da)}(b:Row P w aa β H ai a d)(hs:fc P sz a)(g:a≠[]):ai=sz:=by
 cases a with
 |nil=>exact(g rfl).elim
 |cons v a=>
  rw[pQ]at b;obtain⟨c,cs,rfl,e,f,_⟩:=b;have:=(uk.1 hs v s_).2;rw[<-f,(nt e).1,this]
theorem Kw{ai:Nat}{d:List PV}{e:List (List da)}(h:bc P w aa (hU d.length ai) d e)(off len:Nat)(hl:off+len<=d.length):
 ∃a b c,e=a++b++c/\bc P w aa (hU ((d.drop off).take len).length ai) ((d.drop off).take len) b/\a.flatten.length=off*ai:=by
 have f:Row P w aa ⟨id,id⟩ [] ai (d.map .p) e:=lH.2 h;obtain⟨a,b,c,e1,e2,e3,_⟩:=jK f off len (by simpa using hl);rw[Ax,lH]at e2;exact⟨a,b,c,e1,e2,e3⟩
theorem VC{T:c8}{x:c7}{lo hi M:Option c7}(r:o.op= .slice T x lo hi M){H0:Heap}{K:aU->Prop}(h:nB P T H0 (ρ x) (lo.map ρ) (hi.map ρ) (M.map ρ) K):
 ∃e,K e/\bm P o ρ base e/\(∀p∈e.aj,H0[p.1]?=some p.2)/\e.aG=[]:=by
 unfold nB at h;obtain⟨ap,h⟩:=h;obtain rfl:M=none:=by cases M<;>simp_all
 have I:x∈o.op.operands:=by rw[r];simp[hh]
 split at h
 ·
  rename_i s hx;obtain⟨ae,h⟩:=h;have ab:=xa ae;obtain⟨l,h,C⟩:=j0 h;obtain⟨f,h,D⟩:=j0 h;obtain⟨A,B,h⟩:=h;refine⟨_,h,bm.same fun H w aa ag β n v m _=>?_,s_,rfl⟩;have j:=(m x I).1;rw[hx]at j;simp only[ar,aA]at j;obtain⟨bs,e1,e2⟩:=j;have af:s.length=bs.size:=by rw[e2];simp
  have u:=rT (P:=P) (w:=w) (aa:=aa) (β:=β) (H:=H) (b:=false) (cap:=bs.size) (ρ:=ρ) (ρc:=n) af C D o_ B (fun y z=>(m y (oI r z)).1);refine⟨.string (bs.extract f l),?_,?_,by simp[aB]⟩
  ·simp only[db,r,e1];refine ek ?_;rw[Sc ab];simp only[gy,hE,c6 ab,hC,ls,Option.isSome_none];simp[u]
  ·simp only[ar,aA];refine⟨_,rfl,?_⟩;rw[e2,<-kk,<-List.map_drop,Go.Lib.extract_data,jp]
 ·
  rename_i hx;obtain⟨g,h⟩:=h;obtain⟨sz,g⟩:=lq.1 g;obtain⟨e,W,g⟩:=jX g;obtain⟨l,h,C⟩:=j0 h;obtain⟨f,h,D⟩:=j0 h;obtain⟨A,B,F⟩:=h;obtain rfl:l=0:=o_
  obtain rfl:f=0:=o_
  refine⟨_,F,bm.same fun H w aa ag β n v m _=>?_,s_,rfl⟩;have j:=(m x I).1;rw[hx]at j;simp only[ar,aA]at j;have u:=rT (P:=P) (w:=w) (aa:=aa) (β:=β) (H:=H) (b:=true) (cap:=0) (ρ:=ρ) (ρc:=n) (len:=0) (d:=0) rfl C D o_ B (fun y z=>(m y (oI r z)).1);refine⟨.slice none 0 0,?_,by rw[hx];simp[ar,aA],by rw[hx];simp[aB]⟩;simp only[db,r,j];refine ek ?_;rw[rP g.gv];simp only[gy,hE,c6 g.gv,hC,ls,u,g.run];simp
 ·
  rename_i full q hx;obtain⟨l,h,C⟩:=j0 h;obtain⟨f,h,D⟩:=j0 h;obtain⟨A,B,h⟩:=h
  split at h
  case h_2=>exact h.elim
  rename_i sz g;obtain⟨S,h⟩:=h;obtain⟨e,W,g⟩:=jX g;refine⟨_,h,bm.same fun H w aa ag β n v m _=>?_,s_,rfl⟩;have j:=(m x I).1;rw[hx]at j;simp only[ar,aA]at j;obtain⟨ak,off,cap,ai,X,v1,v2,v3,v4,v5,sp,U,v6⟩:=j;have V:cap≠f->sp=none:=fun h=>U.resolve_right o_;have u:=rT (P:=P) (w:=w) (aa:=aa) (β:=β) (H:=H) (b:=true) (cap:=cap) (ρ:=ρ) (ρc:=n) rfl C D o_ B (fun y z=>(m y (oI r z)).1);refine⟨.slice (some (if cap=f then⟨ak,off,sp⟩else⟨ak,off+f*sz,none⟩)) (l-f) (cap-f),?_,?_,by simp[aB]⟩
  ·simp only[db,r,v6];refine ek ?_;rw[rP g.gv];simp only[gy,hE,c6 g.gv,hC,ls,u,g.run]
   by_cases hc:cap=f
   ·simp[hc]
   ·obtain rfl:=V hc;simp[hc,kb]
  ·have G:((q.take l).drop f).length=l-f:=by simp;omega
   simp only[ar,aA,G]
   by_cases E:q=[]
   ·subst E;simp at A;subst A;obtain rfl:f=0:=by omega
    by_cases hc:cap=0
    ·exact⟨ak,off,cap,sz,[],by simp[bc],s_,by intro i hi;simp at hi,fun _=>by simpa using hc,s_,sp,.inr hc,by simp[hc]⟩
    ·exact⟨ak,off,cap,sz,[],by simp[bc],s_,by intro i hi;simp at hi,fun hf=>by simp at hf;simpa using v4 hf,s_,none,.inl rfl,by simp[hc]⟩
   ·have O:ai=sz:=sr (w:=w) (aa:=aa) (β:=β) (H:=H) (lH.2 v1) S (by simpa using E);subst O;obtain⟨a,b,c,e1,e2,e3⟩:=Kw v1 f (l-f) o_;rw[<-jp]at e2;have ao:(q.drop f).take (l-f)=(q.take l).drop f:=by rw[jp]
    rw[G]at e2
    by_cases hc:cap=f
    ·obtain rfl:l=f:=by omega
     have N:b=[]:=by
      have:=(ud e2).2.2;simpa using this
     subst N;refine⟨ak,off,cap-l,ai,[],by simpa using e2,fun _=>v2 E,by intro i hi;simp at hi,?_,o_,sp,.inr o_,by simp[hc]⟩;intro _;omega
    ·refine⟨ak,off+f*ai,cap-f,ai,b,e2,fun _=>v2 E,?_,?_,o_,none,.inl rfl,by simp[hc]⟩
     ·have:=rV v3 (pre:=a.flatten) (xs:=b.flatten) (post:=c.flatten) (by rw[e1];simp);rw[e3]at this;exact this
     ·intro hf;simp at hf;have:=v4 hf.1;omega
 ·
  rename_i q hx;obtain⟨l,h,C⟩:=j0 h;obtain⟨f,h,D⟩:=j0 h;obtain⟨A,B,h⟩:=h
  split at h
  case h_2=>exact h.elim
  rename_i sz g;obtain⟨S,h⟩:=h;obtain⟨e,W,g⟩:=jX g;refine⟨_,h,bm.same fun H w aa ag β n v m _=>?_,s_,rfl⟩;have j:=(m x I).1;rw[hx]at j;simp only[ar,aA]at j;rcases j with⟨rfl,j⟩|⟨ak,off,cap,ai,X,v1,v2,v3,v5,sp,U,v6⟩
  ·simp at A;subst A;obtain rfl:f=0:=by omega
   have u:=rT (P:=P) (w:=w) (aa:=aa) (β:=β) (H:=H) (b:=true) (cap:=0) (ρ:=ρ) (ρc:=n) (len:=0) (d:=0) rfl C D o_ B (fun y z=>(m y (oI r z)).1);refine⟨.slice none 0 0,?_,by simp[ar,aA],by simp[aB]⟩;simp only[db,r,j];refine ek ?_;rw[rP g.gv];simp only[gy,hE,c6 g.gv,hC,ls,u,g.run];simp
  have V:cap≠f->sp=none:=fun h=>U.resolve_right o_;have u:=rT (P:=P) (w:=w) (aa:=aa) (β:=β) (H:=H) (b:=true) (cap:=cap) (ρ:=ρ) (ρc:=n) rfl C D o_ B (fun y z=>(m y (oI r z)).1);refine⟨.slice (some (if cap=f then⟨ak,off,sp⟩else⟨ak,off+f*sz,none⟩)) (l-f) (cap-f),?_,?_,by simp[aB]⟩
  ·simp only[db,r,v6];refine ek ?_;rw[rP g.gv];simp only[gy,hE,c6 g.gv,hC,ls,u,g.run]
   by_cases hc:cap=f
   ·simp[hc]
   ·obtain rfl:=V hc;simp[hc,kb]
  ·have G:((q.take l).drop f).length=l-f:=by simp;omega
   simp only[ar,aA,G];right
   by_cases E:q=[]
   ·subst E;simp at A;subst A;obtain rfl:f=0:=by omega
    by_cases hc:cap=0
    ·exact⟨ak,off,cap,sz,[],by simp[bc],s_,by intro i hi;simp at hi,s_,sp,.inr hc,by simp[hc]⟩
    ·exact⟨ak,off,cap,sz,[],by simp[bc],s_,by intro i hi;simp at hi,s_,none,.inl rfl,by simp[hc]⟩
   ·have O:ai=sz:=sr (w:=w) (aa:=aa) (β:=β) (H:=H) (lH.2 v1) S (by simpa using E);subst O;obtain⟨a,b,c,e1,e2,e3⟩:=Kw v1 f (l-f) o_;rw[<-jp]at e2;rw[G]at e2
    by_cases hc:cap=f
    ·obtain rfl:l=f:=by omega
     have N:b=[]:=by
      have:=(ud e2).2.2;simpa using this
     subst N;exact⟨ak,off,cap-l,ai,[],by simpa using e2,fun _=>v2 E,by intro i hi;simp at hi,o_,sp,.inr o_,by simp[hc]⟩
    ·refine⟨ak,off+f*ai,cap-f,ai,b,e2,fun _=>v2 E,?_,o_,none,.inl rfl,by simp[hc]⟩;have:=rV v3 (pre:=a.flatten) (xs:=b.flatten) (post:=c.flatten) (by rw[e1];simp);rw[e3]at this;exact this
 ·
  rename_i b an ai off len hx
  split at h
  case h_2=>exact h.elim
  rename_i k aq am q R;obtain⟨rfl,rfl,g,L,hlen,h⟩:=h;obtain⟨l,h,C⟩:=j0 h;obtain⟨f,h,D⟩:=j0 h;obtain⟨A,B,F⟩:=h;obtain⟨e,W,g⟩:=jX g
  have key:∀(H:Heap)(w:dk)(aa ag:Nat->Prop)(β:Bd)(n:c7->da),bX P w aa β H ag->(∀x∈o.op.operands,ar P w aa β H (ρ x) (n x)/\aB (aH H) (ρ x))->
   H[b]?=some (.arr k an ai q)->q.length<=β.cap b/\(db n o).run P w=.ok (.value (.slice (some (if β.cap b-off=f then⟨β.ak b,off*ai,none⟩else⟨β.ak b,off*ai+f*ai,none⟩)) (l-f) (β.cap b-off-f))) w:=by
   intro H w aa ag β n v m t;have j:=(m x I).1;rw[hx]at j;simp only[ar,bH,bP]at j;obtain⟨_,_,j⟩:=j.2 k q t;have j:=j L;rcases v.cJ b _ t with hold|⟨cs,al,X,rest,k1,k2,k3,k4,k5,k6⟩
   ·exact(L hold).elim
   have u:=rT (P:=P) (w:=w) (aa:=aa) (β:=β) (H:=H) (b:=true) (cap:=β.cap b-off) (ρ:=ρ) (ρc:=n) rfl C D o_ B (fun y z=>(m y (oI r z)).1);refine⟨k5,?_⟩;simp only[db,r,j];refine ek ?_;rw[rP g.gv];simp only[gy,hE,c6 g.gv,hC,ls,u,g.run]
   by_cases hc:β.cap b-off=f
   ·simp[hc]
   ·simp[hc,kb]
  split at F
  ·rename_i Y;subst Y;refine⟨_,F,bm.same fun H w aa ag β n v m aj=>?_,by simpa using R,rfl⟩;have t:H[b]?=some (.arr k an ai q):=by simpa using aj
   obtain⟨ac,J⟩:=key H w aa ag β n v m t;refine⟨_,J,?_,?_⟩
   ·simp only[ar,bH,bP];refine⟨by simp[hN],fun ah ad hl=>?_⟩;unfold dT at hl;rw[t]at hl;cases hl;exact⟨o_,fun Q=>(L Q).elim,fun _=>by simp⟩
   ·simp only[aB];exact⟨_,t,kp _⟩
  ·rename_i Y
   split at F
   ·rename_i Z;subst Z;refine⟨_,F,bm.same fun H w aa ag β n v m aj=>?_,by simpa using R,rfl⟩;have t:H[b]?=some (.arr k an ai q):=by simpa using aj
    obtain⟨ac,J⟩:=key H w aa ag β n v m t;refine⟨_,J,?_,by simp[aB]⟩;simp only[ar,aA]
    by_cases hc:β.cap b-off=f
    ·exact⟨β.ak b,off*ai,β.cap b-off-f,ai,[],by simp[bc],s_,by intro i hi;simp at hi,s_,s_,by simp[hc]⟩
    ·exact⟨β.ak b,off*ai+f*ai,β.cap b-off-f,ai,[],by simp[bc],s_,by intro i hi;simp at hi,s_,s_,by simp[hc]⟩
   ·rename_i Z;refine⟨_,F,bm.same fun H w aa ag β n v m aj=>?_,by simpa using R,rfl⟩;have t:H[b]?=some (.arr k an ai q):=by simpa using aj
    obtain⟨ac,J⟩:=key H w aa ag β n v m t;refine⟨_,J,?_,?_⟩
    ·simp only[ar,bH,bP];refine⟨by simp[hN],fun ah ad hl=>?_⟩;unfold dT at hl;rw[t]at hl;cases hl;refine⟨o_,fun Q=>(L Q).elim,fun _=>?_⟩;have hc:¬(β.cap b-off=f):=by omega
     rw[if_neg hc,lb,Nat.sub_sub]
    ·simp only[aB];exact⟨_,t,kp _⟩
 ·exact h.elim
theorem Us{T:c8}{x:c7}{lo hi:Option c7}{d:c7}(g:o.op= .slice T x lo hi (some d)){H0:Heap}{K:aU->Prop}(h:pT P T H0 (ρ x) (lo.map ρ) (hi.map ρ) (ρ d) K):
 ∃e,K e/\bm P o ρ base e/\(∀p∈e.aj,H0[p.1]?=some p.2)/\e.aG=[]:=by
 unfold pT at h;have S:x∈o.op.operands:=by rw[g];simp[hh]
 split at h
 case h_2=>exact h.elim
 rename_i b an ai off len hx
 split at h
 case h_2=>exact h.elim
 rename_i k ah ac es V;obtain⟨rfl,rfl,c,E,hlen,X,h⟩:=h;obtain⟨i,h,Q⟩:=j0 h;obtain⟨I,h,R⟩:=j0 h;have J:gB ((some d).map ρ) 0 (fun m=>off+m<=es.length/\i<=m/\I<=i/\K {v:=.p .undef,aj:=[(b,.arr k an ai es)]}):=h;obtain⟨B,h,U⟩:=j0 J;obtain⟨ad,C,L,M⟩:=h;obtain⟨sz,c⟩:=lq.1 c;obtain⟨e,af,c⟩:=jX c;refine⟨_,M,bm.same fun H w aa ag β f W n aj=>?_,by simpa using V,rfl⟩;have F:H[b]?=some (.arr k an ai es):=by simpa using aj
 have a:=(n x S).1;rw[hx]at a;simp only[ar,bH,bP]at a;obtain⟨_,_,a⟩:=a.2 k es F;have a:=a E;rcases W.cJ b _ F with hold|⟨cs,Z,ab,rest,k1,k2,k3,k4,k5,k6⟩
 ·exact(E hold).elim
 have s:∃q,ρ d=.p (.int q B):=by
  rcases U with⟨h,_⟩|⟨y,q,A,a⟩
  ·cases h
  ·cases A;exact⟨q,a⟩
 obtain⟨q,s⟩:=s;have j:=(n d (by rw[g];simp[hh])).1;rw[s]at j;simp only[ar,aA]at j;have O:∃y G,hi=some y/\ρ y=.p (.int G i):=by
  rcases Q with⟨rfl,_⟩|h
  ·simp at X
  ·exact h
 obtain⟨y,G,rfl,A⟩:=O;have l:=(n y (oI g (.inl rfl))).1;rw[A]at l;simp only[ar,aA]at l;have N:(gm true len (β.cap b-off) (lo.map f) (some (f y)) (some (f d))).run P w=.ok (I,i,B) w:=by
  have D:(B:Int)<=((β.cap b-off:Nat):Int):=o_
  rcases R with⟨rfl,rfl⟩|⟨z,ae,rfl,Y⟩
  ·simp[gm,j,l,g8,asIntOf,D,C]
  ·have u:=(n z (oI g (.inr rfl))).1;rw[Y]at u;simp only[ar,aA]at u;simp[gm,j,l,u,g8,asIntOf,D,C,L]
 have t:∃r,(ha T (f x) (lo.map f) (some (f y)) (some (f d))).run P w=.ok r w:=by
  rw[rP c.gv,a];simp only[gy,hE,c6 c.gv,hC,N,c.run];exact⟨_,rfl⟩
 obtain⟨r,t⟩:=t;refine⟨r,?_,by simp only[ar,aA],by simp[aB]⟩;simp only[db,g,lu];exact ek t
end
section
variable{P:c9}{w:dk}{aa ag:Nat->Prop}{β:Bd}{H:Heap}
variable{o:Oper}{ρ:c7->AV}{base:Nat}
theorem pg{H0 H:Heap}{a:AV}{c:List AV}(h:gI H0 a=some c)(aj:∀p∈dB H0 a,H[p.1]?=some p.2):gI H a=some c:=by
 cases a with
 |sl b an ai off len=>
  simp only[gI]at h⊢;simp only[dB]at aj
  split at h
  case h_2=>simp at h
  rename_i k g f e d;rw[d]at aj;have:=aj _ (ix.2 rfl);simp only at this;rw[this];exact h
 |p v=>cases v<;>exact h
 |_=>simp[gI]at h
theorem mV{H0:Heap}{a:AV}:∀p∈dB H0 a,H0[p.1]?=some p.2:=by
 intro p b;unfold dB at b
 split at b
 all_goals first
  |(split at b
    ·rename_i o c;simp at b;subst b;exact c
    ·simp at b)
  |simp at b
theorem ua{sz m:Nat}{ak off n c:Nat}{w:dk}{xs:List da}(hl:xs.length=m*sz)(hc:gJ w ak off xs):(e6 sz m (.slice (some ⟨ak,off,none⟩) n c)).run P w=.ok xs.toArray w:=by
 refine eo w sz m _ n c xs hl ?_;intro j v a;rw[kb];obtain⟨b,d⟩:=hR.1 a;rw[hc j b,d]
theorem Ar{sz n c:Nat}{a:Addr}{w:dk}:(e6 sz 0 (.slice (some a) n c)).run P w=.ok #[] w:=
 eo w sz 0 a n c [] s_ (fun j v b=>by simp at b)
theorem uN{sz:Nat}{a:AV}{u:List AV}{v:da}(g:gI H a=some u)(G:bX P w aa β H ag)(i:ar P w aa β H a v)(R:aB (aH H) a)(hs:fc P sz u):
 ∃d,Row P w aa β H sz u d/\aR (aH H) u/\e8 v=pure u.length/\
  ∀w':dk,w'.heap=w.heap->∀m,m<=u.length->(e6 sz m v).run P w'=.ok (d.take m).flatten.toArray w':=by
 have F:∀{f:List AV}{d:List (List da)}(m:Nat),Row P w aa β H sz f d->m<=f.length->(d.take m).flatten.length=m*sz:=by
  intro f d m h j;obtain⟨x,y,z,e1,e2,e3,e4,e5⟩:=jK h 0 m o_;have hx:x=[]:=by have:=(fM e4).1;simpa using this
  have N:y.length=m:=by have:=(fM e2).1;simp at this;omega
  subst hx;have J:d.take m=y:=by rw[e1];simp[N]
  rw[J];have:=(fM e2).2;rw[this];simp[j]
 have cells:∀{ak off:Nat}{d:List (List da)}(w':dk),w'.heap=w.heap->gJ w ak off d.flatten->∀m,gJ w' ak off (d.take m).flatten:=by
  intro ak off d w' q hc m;have I:gJ w' ak off d.flatten:=hc.same (by rw[q]);have:=rV I (pre:=[]) (xs:=(d.take m).flatten) (post:=(d.drop m).flatten) (by
   rw[i7,<-ip,List.take_append_drop])
  simpa using this
 cases a with
 |p t=>
  cases t with
  |aK=>
   simp[gI]at g;subst g;simp only[ar,aA]at i;subst i;exact⟨[],ia.2 rfl,by simp[aR],rfl,fun w' _ m j=>by simp[e6]⟩
  |bE full f=>
   simp[gI]at g;subst g;simp only[ar,aA]at i;obtain⟨ak,off,cap,ai,d,v1,v2,v3,v4,v5,sp,D,rfl⟩:=i;rcases D with rfl|rfl
   case inr=>
    obtain rfl:f=[]:=h4.1 o_;exact⟨[],ia.2 rfl,by simp[aR],rfl,fun w' _ m j=>by
     obtain rfl:m=0:=by simpa using j
     exact Ar⟩
   have h:Row P w aa β H ai (f.map .p) d:=lH.2 v1;have o:Row P w aa β H sz (f.map .p) d:=by
    by_cases n:f.map AV.p=[]
    ·rw[n]at h⊢;rw[ia]at h⊢;exact h
    ·rw[<-sr h hs n];exact h
   refine⟨d,o,iR _ _,by simp[e8],fun w' q m j=>?_⟩;exact ua (F m o j) (cells w' q v3 m)
  |seq f=>
   simp[gI]at g;subst g;simp only[ar,aA]at i;rcases i with⟨rfl,rfl⟩|⟨ak,off,cap,ai,d,v1,v2,v3,v5,sp,D,rfl⟩
   ·exact⟨[],ia.2 rfl,by simp[aR],rfl,fun w' _ m j=>by simp[e6]⟩
   rcases D with rfl|rfl
   case inr=>
    obtain rfl:f=[]:=h4.1 o_;exact⟨[],ia.2 rfl,by simp[aR],rfl,fun w' _ m j=>by
     obtain rfl:m=0:=by simpa using j
     exact Ar⟩
   have h:Row P w aa β H ai (f.map .p) d:=lH.2 v1;have o:Row P w aa β H sz (f.map .p) d:=by
    by_cases n:f.map AV.p=[]
    ·rw[n]at h⊢;rw[ia]at h⊢;exact h
    ·rw[<-sr h hs n];exact h
   refine⟨d,o,iR _ _,by simp[e8],fun w' q m j=>?_⟩;exact ua (F m o j) (cells w' q v3 m)
  |str s=>
   simp[gI]at g;subst g;simp only[ar,aA]at i;obtain⟨bs,rfl,rfl⟩:=i;have M:sz=1\/bs.data.toList=[]:=by
    cases B:bs.data.toList with
    |nil=>exact .inr rfl
    |cons a r=>
     rw[B]at hs;simp[fc,ad,aL,bB]at hs;exact .inl hs.1.symm
   have h:Row P w aa β H sz ((bs.data.toList.map (·.toNat)).map fun c=>.p (.int .u8 (c:Nat))) (bs.data.toList.map fun c=>[hO .u8 c.toNat]):=by
    rcases M with rfl|B
    ·generalize bs.data.toList=l
     induction l with
     |nil=>exact ia.2 rfl
     |cons a r E=>exact pQ.2 ⟨_,_,rfl,by simp[bg,aV],rfl,E⟩
    ·rw[B];exact ia.2 rfl
   refine⟨_,h,by rw[cH];intro v i;simp at i;obtain⟨a,_,rfl⟩:=i;simp[aB],by simp[e8],fun w' _ m _=>?_⟩;have e:((bs.data.toList.map fun c=>[hO .u8 c.toNat]).take m).flatten=(bs.data.toList.take m).map fun c=>hO .u8 c.toNat:=by
    rw[<-kk];generalize bs.data.toList.take m=l
    induction l with
    |nil=>rfl
    |cons a r E=>simp[E]
   rw[e];simp only[e6,hF];congr 1;apply b4;simp[ByteArray.data_extract]
  |_=>simp[gI]at g
 |sl b an ai off len=>
  simp only[gI]at g
  split at g
  case h_2=>simp at g
  rename_i k S Q f C
  split at g
  case isFalse=>simp at g
  rename_i hc;obtain⟨rfl,rfl,hl⟩:=hc;simp at g;subst g;simp only[ar,bH,bP]at i;obtain⟨_,v2,v3⟩:=i.2 k f C;have L:((f.drop off).take len).length=len:=by simp;omega
  by_cases A:dc k f
  ·rw[v2 A];have K:=A.2;subst K;simp at hl;obtain⟨rfl,rfl⟩:=hl;exact⟨[],ia.2 s_,by simp[aR],rfl,fun w' _ m j=>by simp[e6]⟩
  ·rw[v3 A];rcases G.cJ b _ C with hold|⟨cs,O,d,rest,k1,k2,k3,k4,k5,k6⟩
   ·exact(A hold).elim
   obtain⟨x,y,z,e1,e2,e3,e4,e5⟩:=jK k2 off len hl;have o:Row P w aa β H sz ((f.drop off).take len) y:=by
    by_cases n:(f.drop off).take len=[]
    ·rw[n]at e2⊢;rw[ia]at e2⊢;exact e2
    ·rw[<-sr e2 hs n];exact e2
   refine⟨y,o,?_,by rw[L];rfl,fun w' q m j=>?_⟩
   ·rw[cH];intro v i;exact cH.1 (G.refs b _ C) v (h6 (h0 i))
   ·refine ua (F m o j) (cells w' q ?_ m);rw[<-e3];exact lB k1 (post:=z.flatten++rest) (by rw[k3,e1];simp)
 |_=>simp[gI]at g
theorem Uc{T X e:c8}{i:ec}{f:da}{sz:Nat}(a:pM P T sz e i)(b:iy P X=true)(y:i.zero=some f)(A:c8){p:Option Addr}{sLen sCap n:Nat}{j h:Array da}(x:da)
 (hx:e8 x=pure n)(s:(e6 sz sLen (.slice p sLen sCap)).run P w.drew=.ok j w.drew)(aS:(e6 sz n x).run P w.drew=.ok h w.drew)(q:sCap<sLen+n)(g:sLen+n<=cF):
 ∃cap,sLen+n<=cap/\(e7 #[T,X] A #[.slice p sLen sCap,x]).run P w=
  .ok (.slice (some ⟨w.heap.size,0,none⟩) (sLen+n) cap) {w.drew with heap:=w.heap.push (.cells (j++h++e9 f.cells (cap-(sLen+n))) e)}:=by
 refine⟨grownCap w (sLen+n) sCap e,by simp[grownCap,Question.cut],?_⟩;have o:∃d,P.underlying X=some d/\∀k,d≠.int k:=by
  unfold iy at b
  split at b
  ·simp at b
  ·rename_i d c v;exact⟨_,v,c⟩
  ·simp at b
 obtain⟨d,c,B⟩:=o;have r:¬(sLen+n<=sCap):=o_
 have m:¬(9223372036854775807<((sLen:Int)+(n:Int))):=by unfold cF at g;omega
 have C:fm (sLen+n) sCap*i.bytes<=281474976710656:=by
  refine growslice_fits q ?_;have:=Nat.mul_le_mul g (Nat.le_of_lt a.bytes);unfold cF at this;omega
 have l:¬(281474976710656<fm (sLen+n) sCap*i.bytes):=o_
 have t:(sizeOf e).run P w=.ok sz w:=a.run w;have u:∀w:dk,(typeInfo e).run P w=.ok i w:=fun w=>by simp[typeInfo,a.info]
 have z:∀w:dk,(zeroValue e).run P w=.ok f w:=fun w=>by simp[zeroValue,typeInfo,a.info,y]
 simp[e7,c6 a.gv,c6 c,t,u,z,hx,r,m,l,Question.forced,s,aS,newRow,grownCap,Array.append_assoc];rfl
theorem Hm{T X e:c8}{i:ec}{sz:Nat}(j:pM P T sz e i)(c:iy P X=true)(t:c8){g off:Nat}{sLen sCap n:Nat}{b:Array da}{h:c8}{a:List da}(x:da)
 (hx:e8 x=pure n)(o:w.heap[g]?=some (.cells b h (0,0)))(aS:(e6 sz n x).run P w=.ok a.toArray w)(l:∀u∈a,u.oneCell'=true)(q:sLen+n<=sCap)(p:off+sLen*sz+a.length<=b.size):
 (e7 #[T,X] t #[.slice (some ⟨g,off,none⟩) sLen sCap,x]).run P w=
  .ok (.slice (some ⟨g,off,none⟩) (sLen+n) sCap) (w.setRow g (b.toList.take (off+sLen*sz)++a++b.toList.drop (off+sLen*sz+a.length)).toArray):=by
 have m:∃d,P.underlying X=some d/\∀k,d≠.int k:=by
  unfold iy at c
  split at c
  ·simp at c
  ·rename_i d f s;exact⟨_,s,f⟩
  ·simp at c
 obtain⟨d,f,v⟩:=m;have aJ:=dz P g (off+sLen*sz) h a 0 b w o (by simpa using p) l;simp only[kw]at aJ;have r:(sizeOf e).run P w=.ok sz w:=j.run w;simp[e7,c6 j.gv,c6 f,r,hx,q,aS,kb,aJ]
theorem S5{T X e:c8}{i:ec}{sz:Nat}(f:pM P T sz e i)(b:iy P X=true)(m:c8){p:Option Addr}{sLen sCap:Nat}(x:da)
 (hx:e8 x=pure 0)(aS:(e6 sz 0 x).run P w=.ok #[] w)(g:sLen<=sCap):
 (e7 #[T,X] m #[.slice p sLen sCap,x]).run P w=.ok (.slice p sLen sCap) w:=by
 have j:∃d,P.underlying X=some d/\∀k,d≠.int k:=by
  unfold iy at b
  split at b
  ·simp at b
  ·rename_i d c l;exact⟨_,l,c⟩
  ·simp at b
 obtain⟨d,c,n⟩:=j;have h:(sizeOf e).run P w=.ok sz w:=f.run w;cases p with
 |none=>simp[e7,c6 f.gv,c6 c,h,hx,g,aS]
 |some a=>simp[e7,c6 f.gv,c6 c,h,hx,g,aS,storeCells]
theorem bV.drew{aD:Nat->Prop}{w1 w':dk}{aI:Bd}{H':Heap}(a:w1.heap=w.heap)(b:w1.os=w.os/\w1.output=w.output)(h:bV P ag aa w1 β H aD w' aI H'):bV P ag aa w β H aD w' aI H':=
 ⟨h.bR,h.fresh,⟨by rw[<-a];exact h.ext.size,fun k hk=>by rw[<-a];exact h.ext.same k hk,h.ext.io.1.trans b.1,h.ext.io.2.trans b.2⟩,h.step,h.rel,h.fp,h.loop⟩
theorem Hn(z:Array da)(n:Nat):(e9 z n).size=n*z.size:=by simp[e9]
theorem uT{ai:Nat}:∀{b:List AV}{a:List (List da)},Row P w aa β H ai b a->∀c∈a.flatten,c.oneCell'=true
 |[],a,h=>by rw[ia]at h;subst h;simp
 |v::b,a,h=>by
  rw[pQ]at h;obtain⟨c,cs,rfl,d,_,e⟩:=h;intro x hx;simp only[List.flatten_cons,i8]at hx;exact hx.elim (yd d x) (uT e x)
theorem Row.mono{w':dk}{aD:Nat->Prop}{aI:Bd}{H':Heap}(hI:∀k,aa k->aD k)(hs:∀k,aa k->w'.heap[k]?=w.heap[k]?)(aJ:cg β H aI H'){ai:Nat}{a:List AV}{b:List (List da)}(c:aR (aH H) a)
 (h:Row P w aa β H ai a b):Row P w' aD aI H' ai a b:=bG.mono hI hs aJ _ _ _ c h
theorem xb{c:Call}{s x:c7}(e:o.op= .call c)(hc:c.callee= .builtin .append)(b:c.args.toList=[s,x]){a:c7->da}{w w':dk}{v:da}
 (h:(e7 c.argTypes o.type #[a s,a x]).run P w=.ok v w'):(db a o).run P w=.ok (.value v) w':=by
 have d:c.args=#[s,x]:=by apply b4;simpa using b
 simp only[db,e,resolve,hc,d];simp[invoke,builtin,h]
theorem UE{c:Call}{s x:c7}(e:o.op= .call c)(hc:c.callee= .builtin .copy)(b:c.args.toList=[s,x]){a:c7->da}{w w':dk}{v:da}
 (h:(fd c.argTypes o.type #[a s,a x]).run P w=.ok v w'):(db a o).run P w=.ok (.value v) w':=by
 have d:c.args=#[s,x]:=by apply b4;simpa using b
 simp only[db,e,resolve,hc,d];simp[invoke,builtin,h]
end
section
variable{P:c9}{w:dk}{aa ag:Nat->Prop}{β:Bd}{H:Heap}
variable{o:Oper}{ρ:c7->AV}{base:Nat}
theorem wS{c:Call}{s x:c7}(C:o.op= .call c)(hc:c.callee= .builtin .append)(v:c.args.toList=[s,x]){T X e:c8}(G:c.argTypes=#[T,X]){i:ec}{j:da}{sz:Nat}(t:pM P T sz e i)(u:iy P X=true)
 (K:i.zero=some j)(L:j.cells.size=sz)(E:bX P w aa β H ag){g:c7->da}{p:Option Addr}{b f:Nat}{olds a:List AV}{ocss:List (List da)}(hs:g s=.slice p b f)(vE:olds.length=b)(l:Row P w aa β H sz olds ocss)(D:aR (aH H) olds)
 (B:(e6 sz b (.slice p b f)).run P w.drew=.ok ocss.flatten.toArray w.drew)
 (hx:gI H (ρ x)=some a)(J:ar P w aa β H (ρ x) (g x))(I:aB (aH H) (ρ x))(F:fc P sz a)(z:f<b+a.length)(A:b+a.length<=cF):
 ∃cap cells d M,(db g o).run P w=.ok (.value (.slice (some ⟨w.heap.size,0,none⟩) (b+a.length) cap)) {w.drew with heap:=w.heap.push (.cells cells e)}/\
  Row P w aa β H sz (olds++a) d/\aR (aH H) (olds++a)/\cells.toList=d.flatten++M/\cells.size=cap*sz/\(olds++a).length<=cap:=by
 obtain⟨d,h,n,q,r⟩:=uN hx E J I F;have k:=r w.drew rfl a.length (kp _);have N:d.length=a.length:=(fM h).1;rw[i4 o_]at k;obtain⟨cap,y,m⟩:=Uc t u K o.type (sLen:=b) (sCap:=f) (p:=p) (g x) q B k z A;rw[<-G,<-hs]at m;refine⟨cap,_,ocss++d,(e9 j.cells (cap-(b+a.length))).toList,xb C hc v m,kT.2 ⟨_,_,rfl,l,h⟩,jJ D n,s_,?_,by simpa[vE]using y⟩;have e1:=(fM l).2;have e2:=(fM h).2;simp only[Array.size_append,h9,Hn,L,e1,e2,vE,<-lb];congr 1;omega
theorem sY{T:c8}:gk P T≠.frozen/\gk P T≠.exact:=by
 unfold gk;split<;>simp
theorem Dh{T e:c8}(h:dU P T=e)(hk:gk P T=.bytes):e=Gl.u8:=by
 unfold gk at hk
 split at hk
 ·rename_i a;rw[<-h];exact a
 ·cases hk
theorem Bl{_o':Obj}{k:AK}{a:List AV}{b:List (List da)}{r:List da}{cells:Array da}{e:c8}{cap sz:Nat}(j:bX P w aa β H ag)(c:H[base]?=some .hole)
 (g:k≠.frozen)(i:¬dc k a)(m:Row P w aa β H sz a b)(d:aR (aH H) a)(hc:cells.toList=b.flatten++r)(o:cells.size=cap*sz)(h:a.length<=cap)(f:k=.exact->cap=a.length)(p:k=.bytes->e=Gl.u8):
 bV P ag aa w β H aa {w.drew with heap:=w.heap.push (.cells cells e)} (β.at base w.heap.size cap) (aX H ([]++newAt base [.arr k 0 sz a]))/\
 ar P {w.drew with heap:=w.heap.push (.cells cells e)} aa (β.at base w.heap.size cap) (aX H ([]++newAt base [.arr k 0 sz a])) (.sl base 0 sz 0 a.length) (.slice (some ⟨w.heap.size,0,none⟩) a.length cap)/\
 aB (aH (aX H ([]++newAt base [.arr k 0 sz a]))) (.sl base 0 sz 0 a.length):=by
 have l:bX P w.drew aa β H ag:=bX.uD (w:=w) (w':=w.drew) rfl j;have n:Row P w.drew aa β H sz a b:=Row.mono (w:=w) (w':=w.drew) (fun _ x=>x) (fun _ _=>rfl) (cg.refl _ _) d m;obtain⟨q1,q⟩:=xt (T:=e) (k:=k) l c g i n d hc o h f p;rw[lr];exact⟨bV.drew (w1:=w.drew) rfl ⟨rfl,rfl⟩ q1,q,⟨_,hS (hR.1 c).1,kp _⟩⟩
theorem JI{b:Nat}{k k':AK}{an ai:Nat}{i es':List AV}{ak cap:Nat}(f:H[b]?=some (.arr k an ai i)):cg β H (β.at b ak cap) (H.set b (.arr k' (an+1) ai es')):=by
 have j:b<H.length:=(hR.1 f).1;have c:∀x,x≠b->(H.set b (.arr k' (an+1) ai es'))[x]?=H[x]?:=fun x hx=>h3 (ln hx);have a:(H.set b (.arr k' (an+1) ai es'))[b]?=some (.arr k' (an+1) ai es'):=hS j;refine⟨?_,?_,?_,?_,?_⟩
 ·rintro x _ ⟨fz,t,h⟩
  by_cases hx:x=b
  ·subst hx;rw[a]at h;cases h
  ·rw[c x hx]at h;exact⟨⟨fz,t,h⟩,by simp[Bd.at,hx]⟩
 ·rintro x _ ⟨fz,t,h⟩
  by_cases hx:x=b
  ·subst hx;rw[a]at h;cases h
  ·rw[c x hx]at h;exact⟨⟨fz,t,h⟩,by simp[Bd.at,hx]⟩
 ·rintro x _ ⟨n,h,e⟩
  by_cases hx:x=b
  ·subst hx;rw[a]at h;cases h;exact e.elim
  ·rw[c x hx]at h;exact⟨⟨n,h,e⟩,by simp[Bd.at,hx]⟩
 ·intro x v z m g hi h;unfold dT at h
  by_cases hx:x=b
  ·subst hx;rw[a]at h;cases h;obtain⟨o,d,l⟩:=hi;simp only at d;rw[f]at d;cases d;simp only[Obj.has]at l;omega
  ·rw[c x hx]at h;exact⟨m,g,h,kp _,Iff.rfl,fun _=>by simp[Bd.at,hx]⟩
 ·rintro x _ ⟨L,h⟩
  by_cases hx:x=b
  ·subst hx;rw[a]at h;cases h
  ·rw[c x hx]at h;exact⟨⟨L,h⟩,by simp[Bd.at,hx]⟩
theorem Bd.UO(β:Bd)(b:Nat):β.at b (β.ak b) (β.cap b)=β:=by
 cases β with
 |mk ak cap=>
  simp only[Bd.at,Bd.mk.injEq];constructor
  ·funext x;split
   ·rename_i h;rw[h]
   ·rfl
  ·funext x;split
   ·rename_i h;rw[h]
   ·rfl
theorem Az{α:Type}(A M Z X:List α):(A++M++Z).take A.length++X++(A++M++Z).drop (A.length+M.length)=A++X++Z:=by
 rw[ih A M Z,List.take_left,<-ih,<-hT,List.drop_left]
theorem Uu{c:Call}{s x:c7}(W:o.op= .call c)(hc:c.callee= .builtin .append)(V:c.args.toList=[s,x])(bQ:c.argTypes.size=2){H0:Heap}{K:aU->Prop}
 (h:nq P (c.argTypes.getD 0 0) (c.argTypes.getD 1 0) H0 (ρ s) (ρ x) K):
 ∃e,K e/\bm P o ρ H0.length e/\(∀p∈e.aj,H0[p.1]?=some p.2)/\(∀p∈e.aG,p.1<H0.length/\p.2≠.hole):=by
 obtain⟨T,X,R⟩:∃T X,c.argTypes=#[T,X]:=by
  obtain⟨l,hl⟩:∃l,l=c.argTypes.toList:=⟨_,rfl⟩
  have ad:l.length=2:=by rw[hl];simpa using bQ
  match l,ad with
  |[a,b],_=>exact⟨a,b,by apply b4;simp[<-hl]⟩
 have B:s∈o.op.operands/\x∈o.op.operands:=by
  have bC:c.args=#[s,x]:=by apply b4;simpa using V
  rw[W];simp[hh,gj,hc,bC]
 have e1:c.argTypes.getD 0 0=T:=by rw[R];rfl
 have e2:c.argTypes.getD 1 0=X:=by rw[R];rfl
 rw[e1,e2]at h;unfold nq at h
 split at h
 case h_2=>exact h.elim
 rename_i sz g F hx;obtain⟨ae,a6,ah,h⟩:=h;obtain⟨e,i,F⟩:=jX F;obtain⟨z,a6⟩:=lq.1 a6;obtain⟨b0,bW,bc,z2,z3,z4⟩:=ov a6;rw[F.pD]at bc z4;rw[F.info]at bc;cases bc;have aQ:bW.cells.size=sz:=by
  obtain⟨_,i2,k1,k2⟩:=wT (v:=.p z) (w:=default) (aa:=fun _=>False) (β:=⟨id,id⟩) (H:=[]) z4 (by simp only[bg];exact z3 _ _);rw[F.info]at k1;cases k1;have:=F.size;simp at k2;omega
 have a8:∀{aj:List (Nat×Obj)},(∀p∈dB H0 (ρ x),p∈aj)->(∀p∈aj,H0[p.1]?=some p.2)->g=[]->(∀(H:Heap)(w:dk)(aa ag:Nat->Prop)(β:Bd)(v:da),bX P w aa β H ag->(∀p∈aj,H[p.1]?=some p.2)->ar P w aa β H (ρ s) v->∃p a b,v= .slice p a b/\a<=b)->
  bm P o ρ H0.length {v:=ρ s,aj}:=by
  intro aj bO aq bR bM;subst bR;refine bm.same fun H w aa ag β ap f j aj=>?_;obtain⟨p,a,b,u,bB⟩:=bM H w aa ag β _ f aj (j s B.1).1;obtain⟨E,C,ad,bx,bz⟩:=uN (pg hx (fun p u=>aj p (bO p u))) f (j x B.2).1 (j x B.2).2 ah;have bh:=bz w rfl 0 (kp _);simp only[List.take_zero,List.flatten_nil]at bh;have Q:=S5 F ae o.type (p:=p) (sLen:=a) (sCap:=b) _ bx bh bB;rw[<-R,<-u]at Q;exact⟨_,xb W hc V Q,by rw[u];exact u▸(j s B.1).1,(j s B.1).2⟩
 have a7:∀l:List AV,l.isEmpty=true->l=[]:=fun l h=>by simpa using h
 split at h
 ·
  rename_i hs
  split at h
  ·rename_i G;refine⟨_,h,?_,mV,s_⟩;exact a8 (fun p u=>u) mV (a7 _ G) (fun H w aa ag β v _ _ A=>by rw[hs]at A;simp only[ar,aA]at A;exact⟨_,_,_,A,kp _⟩)
  ·rename_i G;obtain⟨bn,h⟩:=h;refine⟨_,h,?_,mV,s_⟩;intro H w aa ag β ap f j aj aC;have af:H[H0.length]?=some .hole:=by simpa using aC 0 s_
   have O:=(j s B.1).1;rw[hs]at O;simp only[ar,aA]at O;have bp:0<g.length:=j2.2 (by simpa using G);obtain⟨cap,cells,E,D,r1,r2,ab,al,am,ao⟩:=wS W hc V R F ae z2 aQ f O (olds:=[]) (ocss:=[]) rfl (ia.2 rfl) (by simp[aR]) (by simp[e6])
    (pg hx aj) (j x B.2).1 (j x B.2).2 ah o_ o_
   obtain⟨q1,Y,Z⟩:=Bl (base:=H0.length) (k:=gk P T) (e:=e) (_o':=.hole) f af sY.1 (fun q=>G (by simpa using q.2)) r2 ab al am ao (fun h=>(sY.2 h).elim) (Dh F.pD);simp only[i7,kz]at r1 q1 Y Z;exact⟨_,_,_,_,aa,r1,.inl rfl,q1,Y,Z⟩
 ·
  rename_i full d hs;obtain⟨bD,h⟩:=h
  have O:∀{H:Heap}{w:dk}{aa:Nat->Prop}{β:Bd}{v:da},ar P w aa β H (ρ s) v->∃p c M,v= .slice p d.length c/\d.length<=c/\(full=true->c=d.length)/\Row P w aa β H sz (d.map .p) M/\
   (∀w':dk,w'.heap=w.heap->(e6 sz d.length v).run P w'=.ok M.flatten.toArray w'):=by
   intro H w aa β v A;rw[hs]at A;simp only[ar,aA]at A;obtain⟨ak,off,cap,ai,E,v1,v2,v3,v4,v5,sp,bN,rfl⟩:=A;rcases bN with rfl|rfl
   case inr=>
    obtain rfl:d=[]:=h4.1 o_;exact⟨_,_,[],rfl,s_,s_,ia.2 rfl,fun w' _=>Ar⟩
   have aG:Row P w aa β H ai (d.map .p) E:=lH.2 v1;have bt:Row P w aa β H sz (d.map .p) E:=by
    by_cases bo:d.map AV.p=[]
    ·rw[bo]at aG⊢;rw[ia]at aG⊢;exact aG
    ·rw[<-sr aG bD bo];exact aG
   refine⟨_,_,E,rfl,v5,v4,bt,fun w' a5=>ua (by have:=(fM bt).2;simpa using this) (v3.same (by rw[a5]))⟩
  split at h
  ·rename_i G;refine⟨_,h,?_,mV,s_⟩;exact a8 (fun p u=>u) mV (a7 _ G) (fun H w aa ag β v _ _ A=>by obtain⟨p,c,_,C,ad,_⟩:=O A;exact⟨p,_,c,C,ad⟩)
  ·rename_i G;obtain⟨hf,bn,h⟩:=h;refine⟨_,h,?_,mV,s_⟩;intro H w aa ag β ap f j aj aC;have af:H[H0.length]?=some .hole:=by simpa using aC 0 s_
   have bp:0<g.length:=j2.2 (by simpa using G);obtain⟨p,cp,M,s1,s2,bT,bU,bw⟩:=O (j s B.1).1;rw[s1]at bw;obtain⟨cap,cells,E,D,r1,r2,ab,al,am,ao⟩:=wS W hc V R F ae z2 aQ f s1 (olds:=d.map .p) s_ bU (iR _ _) (bw w.drew rfl)
    (pg hx aj) (j x B.2).1 (j x B.2).2 ah (by have:=bT hf;omega) o_
   obtain⟨q1,Y,Z⟩:=Bl (base:=H0.length) (k:=gk P T) (e:=e) (_o':=.hole) f af sY.1 (fun q=>G (by have:=q.2;simp at this;simp[this.2])) r2 ab al am ao (fun h=>(sY.2 h).elim) (Dh F.pD);simp only[hT,kd]at Y Z;exact⟨_,_,_,_,aa,r1,.inl rfl,q1,Y,Z⟩
 ·
  rename_i b an ai off len hs
  split at h
  case h_2=>exact h.elim
  rename_i k b1 bY d a3;obtain⟨rfl,rfl,rfl,hlen,h⟩:=h;have aq:∀p∈(b,Obj.arr k an ai d)::dB H0 (ρ x),H0[p.1]?=some p.2:=by
   intro p u;rcases hX.1 u with rfl|u
   ·exact a3
   ·exact mV p u
  have O:∀{H:Heap}{w:dk}{aa ag:Nat->Prop}{β:Bd}{v:da},bX P w aa β H ag->H[b]?=some (.arr k an ai d)->ar P w aa β H (ρ s) v->
   (dc k d/\v=.slice none 0 0/\len=0)\/(¬dc k d/\v=.slice (some ⟨β.ak b,off*ai,none⟩) len (β.cap b-off)/\
   ∃cs T E D,w.heap[β.ak b]?=some (.cells cs T (0,0))/\Row P w aa β H ai d E/\cs.toList=E.flatten++D/\
   cs.size=β.cap b*ai/\d.length<=β.cap b/\(k=.exact->β.cap b=d.length)/\cw aa β ag (k== .frozen) b/\(k=.bytes->T=Gl.u8)):=by
   intro H w aa ag β v f t A;rw[hs]at A;simp only[ar,bH,bP]at A;obtain⟨_,v2,v3⟩:=A.2 k d t
   by_cases q:dc k d
   ·exact .inl ⟨q,v2 q,by have:=q.2;subst this;simp at hlen;omega⟩
   ·rcases f.cJ b _ t with hold|⟨cs,N,E,D,k1,k2,k3,k4,k5,k6,k7,k8⟩
    ·exact(q hold).elim
    ·exact .inr ⟨q,v3 q,cs,N,E,D,k1,k2,k3,k4,k5,k6,k7,k8.2⟩
  have holds:∀{H:Heap}{w:dk}{aa:Nat->Prop}{β:Bd}{cs:Array da}{N:c8}{E:List (List da)}{D:List da},w.heap[β.ak b]?=some (.cells cs N (0,0))->Row P w aa β H ai d E->cs.toList=E.flatten++D->
   ∃M,Row P w aa β H ai ((d.drop off).take len) M/\∀(w':dk)(n c:Nat),w'.heap=w.heap->(e6 ai len (.slice (some ⟨β.ak b,off*ai,none⟩) n c)).run P w'=.ok M.flatten.toArray w':=by
   intro H w aa β cs N E D k1 k2 k3;obtain⟨a,m,z,g1,g2,g3,g4,g5⟩:=jK k2 off len hlen;refine⟨m,g2,fun w' n c a5=>ua (by have:=(fM g2).2;rw[this];congr 1;simp;omega) ?_⟩;have:=lB k1 (pre:=a.flatten) (xs:=m.flatten) (post:=z.flatten++D) (by rw[k3,g1];simp);rw[g3]at this;exact this.same (by rw[a5])
  split at h
  ·rename_i G;refine⟨_,h,?_,aq,s_⟩;refine a8 (fun p u=>h2 _ u) aq (a7 _ G) (fun H w aa ag β v f aj A=>?_);rcases O f (aj (b,_) s_) A with⟨_,C,_⟩|⟨q,C,cs,N,E,D,ad⟩
   ·exact⟨_,_,_,C,kp _⟩
   ·exact⟨_,_,_,C,o_⟩
  ·rename_i G;have bp:0<g.length:=j2.2 (by simpa using G);obtain⟨bn,h⟩:=h
   split at h
   ·exact h.elim
   ·
    split at h
    ·rename_i av;refine⟨_,h,?_,aq,by simpa using(hR.1 a3).1⟩;intro H w aa ag β ap f j aj _;have t:H[b]?=some (.arr .exact an ai d):=aj (b,_) s_;rcases O f t (j s B.1).1 with⟨q,_⟩|⟨q,C,cs,N,E,D,k1,k2,k3,k4,k5,k6,k7,k8⟩
     ·cases q.1
     obtain⟨J,U,a9,ba,bb⟩:=uN (pg hx (fun p u=>aj p (h2 _ u))) f (j x B.2).1 (j x B.2).2 ah;have aL:=bb w rfl g.length (kp _);rw[i4 (by have:=(fM U).1;omega)]at aL;have bk:=k6 rfl;obtain⟨a,m,ac,g1,g2,g3,g4,g5⟩:=jK k2 (off+len) g.length av;have aw:=(fM U).2;have au:m.flatten.length=g.length*ai:=by have:=(fM g2).2;rw[this];congr 1;simp;omega
     have aM:cs.toList=a.flatten++m.flatten++(ac.flatten++D):=by rw[k3,g1];simp
     have bj:a.flatten.length=off*ai+len*ai:=by rw[g3,lb]
     have bu:cs.size=a.flatten.length+m.flatten.length+(ac.flatten++D).length:=by
      have:=congrArg j4 aM;simp only[hT,cb]at this;rw[this,hT]
     have Q:=Hm F ae o.type (sLen:=len) (sCap:=β.cap b-off) _ ba k1 aL (uT U) o_ (by rw[aw,bu,bj,au];exact la _ _);rw[<-R,<-C]at Q;have aS:cs.toList.take (off*ai+len*ai)++J.flatten++cs.toList.drop (off*ai+len*ai+J.flatten.length)=a.flatten++J.flatten++(ac.flatten++D):=by
      rw[aM,<-bj,aw,<-au];exact Az _ _ _ _
     rw[aS]at Q;have aJ:cg β H β (H.set b (.arr .exact an ai (d.take (off+len)++g++d.drop (off+len+g.length)))):=oH t (.inr (.inl ⟨_,_,_,_,_,rfl,rfl,by simp;omega⟩));have az:¬aa (β.ak b)/\¬ag (β.ak b):=by
      unfold cw at k7;rw[if_neg s_]at k7;exact k7
     have a4:∀I,aa I->(w.setRow (β.ak b) (a.flatten++J.flatten++(ac.flatten++D)).toArray).heap[I]?=w.heap[I]?:=fun I a0=>dq w _ I _ (fun aZ=>az.1 (aZ▸a0));have hrefs:aR (aH H) (d.take (off+len)++g++d.drop (off+len+g.length)):=by
      have bq:=cH.1 (f.refs b _ t);refine jJ (jJ ?_ a9) ?_
      ·rw[cH];exact fun v A=>bq v (h0 A)
      ·rw[cH];exact fun v A=>bq v (h6 A)
     have aN:=lI t (o:=.arr .exact an ai (d.take (off+len)++g++d.drop (off+len+g.length))) (fun _ h=>h);have a1:(d.take (off+len)++g++d.drop (off+len+g.length)).length=d.length:=by simp;omega
     have aF:=pI f t q (o':=.arr .exact an ai (d.take (off+len)++g++d.drop (off+len+g.length))) (fun S=>by cases S.1) (fun _ h=>h) k1 (new:=(a.flatten++J.flatten++(ac.flatten++D)).toArray) az aJ
      (.inr ⟨_,N,a++J++ac,D,ea w _ _ _ N _ k1,by
       refine Row.mono (fun _ x=>x) a4 aJ hrefs (kT.2 ⟨_,_,rfl,kT.2 ⟨_,_,rfl,g4,U⟩,g5⟩),s_,by
       rw[<-k4,bu];simp only[h9,hT,aw,au],by rw[a1];exact k5,fun _=>by rw[a1];exact bk,k7,(fun aO=>by cases aO),k8⟩) (aR.mono aN _ hrefs)
     refine⟨_,_,_,β,aa,xb W hc V Q,.inl rfl,aF,?_,?_⟩
     ·simp only[ar,bH,bP,aX,newAt,hW];refine⟨by simp[hN],fun I be hl=>?_⟩;unfold dT at hl;rw[hS (hR.1 t).1]at hl;cases hl;exact⟨by rw[a1];omega,(fun S=>by cases S.1),fun _=>trivial⟩
     ·simp only[aB];exact⟨_,hS (hR.1 t).1,kp _⟩
    ·rename_i av;refine⟨_,h,?_,aq,s_⟩;intro H w aa ag β ap f j aj aC;have af:H[H0.length]?=some .hole:=by simpa using aC 0 s_
     have t:H[b]?=some (.arr .exact an ai d):=aj (b,_) s_;rcases O f t (j s B.1).1 with⟨q,_⟩|⟨q,C,cs,N,E,D,k1,k2,k3,k4,k5,k6,k7,k8⟩
     ·cases q.1
     have bk:=k6 rfl;obtain⟨M,aK,aT⟩:=holds k1 k2 k3;have bl:((d.drop off).take len).length=len:=by simp;omega
     obtain⟨cap,cells,bd,bv,r1,r2,ab,al,am,ao⟩:=wS W hc V R F ae z2 aQ f C (olds:=(d.drop off).take len) bl aK
      (by rw[cH];exact fun v A=>cH.1 (f.refs b _ t) v (h6 (h0 A))) (aT w.drew _ _ rfl)
      (pg hx (fun p u=>aj p (h2 _ u))) (j x B.2).1 (j x B.2).2 ah o_ o_
     obtain⟨q1,Y,Z⟩:=Bl (base:=H0.length) (k:=gk P T) (e:=e) (_o':=.hole) f af sY.1 (fun q=>G (by have:=q.2;simp at this;simp[this.2])) r2 ab al am ao (fun h=>(sY.2 h).elim) (Dh F.pD);rw[hT,bl]at Y Z;exact⟨_,_,_,_,aa,r1,.inl rfl,q1,Y,Z⟩
   ·
    rename_i bF bG;obtain⟨rfl,bI,h⟩:=h;have aE:k≠.frozen:=fun e=>bF e;have aO:k≠.exact:=fun e=>bG e;have bZ:(k==AK.frozen)=false:=by simpa using aE
    refine⟨_,h,?_,aq,by simpa using(hR.1 a3).1⟩;intro H w aa ag β ap f j aj _;have t:H[b]?=some (.arr k an ai d):=aj (b,_) s_;have ax:b<H.length:=(hR.1 t).1;have aP:(d.take len).length=len:=by simp;omega
    have bs:aR (aH H) (d.take len):=by rw[cH];exact fun v A=>cH.1 (f.refs b _ t) v (h0 A)
    have a2:¬dc k (d.take len++g):=fun S=>G (by have:=S.2;simp at this;simp[this.2]);have aN:=lI t (o:=.arr k (an+1) ai (d.take len++g)) (fun v h=>by simp only[Obj.has]at h⊢;omega)
    have bf:∀(p:Option Addr)(aW:Nat)(M:List (List da)),ap s= .slice p len aW->Row P w aa β H ai (d.take len) M->(e6 ai len (.slice p len aW)).run P w.drew= .ok M.flatten.toArray w.drew->aW<len+g.length->
     ∃n aY w' aI aD,(db ap o).run P w=.ok n w'/\(n=.value aY\/n=.skip/\aY=undef)/\
      bV P ag aa w β H aD w' aI (H.set b (.arr k (an+1) ai (d.take len++g)))/\ar P w' aD aI (H.set b (.arr k (an+1) ai (d.take len++g))) (.sl b (an+1) ai 0 (len+g.length)) aY/\
      aB (aH (H.set b (.arr k (an+1) ai (d.take len++g)))) (.sl b (an+1) ai 0 (len+g.length)):=by
     intro p aW M C bK bJ bE;obtain⟨cap,cells,bd,bv,r1,r2,ab,al,am,ao⟩:=wS W hc V R F ae z2 aQ f C (olds:=d.take len) aP bK bs bJ
      (pg hx (fun p u=>aj p (h2 _ u))) (j x B.2).1 (j x B.2).2 ah bE o_
     have aJ:=JI (β:=β) (k':=k) (es':=d.take len++g) (ak:=w.heap.size) (cap:=cap) t;have aF:bV P ag aa w β H aa {w.drew with heap:=w.heap.push (.cells cells e)} (β.at b w.heap.size cap) (H.set b (.arr k (an+1) ai (d.take len++g))):=by
      refine bV.set f ax (fun y bS=>by simp[Bd.at,bS]) (fun _ y=>y) (fun _ y=>.inl y) (fun k hk=>by have:=f.bR k hk;simp;omega) s_
       (fun k _ hk=>by simp[cv,ll hk]) (fun _=>.inl (by simp[Bd.at])) aJ
       (.inr ⟨cells,e,bd,bv,by simp[Bd.at],Row.mono (fun _ y=>y) (fun k hk=>by have:=f.bR k hk;simp[cv,ll this]) aJ ab r2,al,by simp[Bd.at,am],by simpa[Bd.at]using ao,(fun ay=>(aO ay).elim),by
        unfold cw;rw[if_neg (by simpa using aE)];simp only[Bd.at,if_true];exact⟨fun h=>kt _ (f.bR _ h),fun h=>kt _ (f.eE _ h)⟩,(fun ay=>(aE ay).elim),fun af=>F.pD▸bI af⟩)
       (aR.mono aN _ ab) (fun aK v C ad=>by rw[t]at C;cases C;simp only[Obj.has]at ad⊢;omega) (fun L bi=>by rw[t]at bi;cases bi)
     refine⟨_,_,_,_,aa,r1,.inl rfl,aF,?_,?_⟩
     ·simp only[ar,bH,bP];refine⟨by simp[hN],fun I be hl=>?_⟩;unfold dT at hl;rw[hS ax]at hl;cases hl;exact⟨by rw[hT,aP];omega,fun S=>(a2 S).elim,fun _=>by simp[Bd.at]⟩
     ·simp only[aB];exact⟨_,hS ax,kp _⟩
    simp only[aX,newAt,hW];rcases O f t (j s B.1).1 with⟨q,C,rfl⟩|⟨q,C,cs,N,E,D,k1,k2,k3,k4,k5,k6,k7,k8⟩
    ·exact bf none 0 [] C (by simp[ia]) (by simp[e6]) o_
    ·simp only[li,Nat.sub_zero]at C
     by_cases av:len+g.length<=β.cap b
     ·
      obtain⟨J,U,a9,ba,bb⟩:=uN (pg hx (fun p u=>aj p (h2 _ u))) f (j x B.2).1 (j x B.2).2 ah;have aL:=bb w rfl g.length (kp _);rw[i4 (by have:=(fM U).1;omega)]at aL;obtain⟨a,m,ac,g1,g2,g3,g4,g5⟩:=jK k2 0 len hlen;have bA:a=[]:=by have:=(fM g4).1;simpa using this
      subst bA;have aw:=(fM U).2;have au:m.flatten.length=len*ai:=by have:=(fM g2).2;rw[this];congr 1
      have aM:cs.toList=m.flatten++(ac.flatten++D):=by rw[k3,g1];simp
      have bL:=Nat.mul_le_mul_right ai av;rw[lb]at bL;have Q:=Hm F ae o.type (off:=0) (sLen:=len) (sCap:=β.cap b) _ ba k1 aL (uT U) av (by rw[aw,k4];omega);rw[<-R,<-C]at Q;obtain⟨aV,br⟩:∃r,r=cs.toList.drop (len*ai+J.flatten.length):=⟨_,rfl⟩
      have aS:cs.toList.take (0+len*ai)++J.flatten++cs.toList.drop (0+len*ai+J.flatten.length)=(m++J).flatten++aV:=by
       rw[kz,<-br];congr 1;rw[aM,<-au];simp
      rw[aS]at Q;have az:¬aa (β.ak b)/\¬ag (β.ak b):=by
       unfold cw at k7;rw[if_neg (by simpa using aE)]at k7;exact k7
      have aJ:cg β H β (H.set b (.arr k (an+1) ai (d.take len++g))):=by
       have:=JI (β:=β) (k':=k) (es':=d.take len++g) (ak:=β.ak b) (cap:=β.cap b) t
       rwa [Bd.UO]at this
      have a4:∀I,aa I->(w.setRow (β.ak b) ((m++J).flatten++aV).toArray).heap[I]?=w.heap[I]?:=fun I a0=>dq w _ I _ (fun aZ=>az.1 (aZ▸a0));have hrefs:aR (aH H) (d.take len++g):=jJ bs a9;have aF:=pI f t q (o':=.arr k (an+1) ai (d.take len++g)) a2 (fun v h=>by simp only[Obj.has]at h⊢;omega) k1 (new:=((m++J).flatten++aV).toArray) az aJ
       (.inr ⟨_,N,m++J,aV,ea w _ _ _ N _ k1,by
        refine Row.mono (fun _ x=>x) a4 aJ hrefs (kT.2 ⟨_,_,rfl,?_,U⟩);simpa using g2,s_,by
        rw[<-k4];simp only[h9,hT,ip,aw,au,br,List.length_drop,cb,k4];omega,by rw[hT,aP];exact av,(fun ay=>(aO ay).elim),k7,(fun h=>(aE h).elim),k8⟩) (aR.mono aN _ hrefs)
      refine⟨_,_,_,β,aa,xb W hc V Q,.inl rfl,aF,?_,?_⟩
      ·simp only[ar,bH,bP];refine⟨by simp[hN],fun I be hl=>?_⟩;unfold dT at hl;rw[hS ax]at hl;cases hl;exact⟨by rw[hT,aP];omega,fun S=>(a2 S).elim,fun _=>by simp⟩
      ·simp only[aB];exact⟨_,hS ax,kp _⟩
     ·obtain⟨M,aK,aT⟩:=holds k1 k2 k3;simp only[j5,li]at aK aT;exact bf _ _ M C aK (aT w.drew _ _ rfl) o_
 ·exact h.elim
end
section
variable{P:c9}{w:dk}{aa ag:Nat->Prop}{β:Bd}{H:Heap}
variable{o:Oper}{ρ:c7->AV}{base:Nat}
def iS(bs:ByteArray):List Nat:=bs.data.toList.map (·.toNat)
theorem Av:∀{a b:List UInt8},a.map (·.toNat)=b.map (·.toNat)->a=b
 |[],[],_=>rfl
 |[],_::_,h=>by simp at h
 |_::_,[],h=>by simp at h
 |x::a,y::b,h=>by
  simp at h;rw[l2.1 h.1,Av h.2]
theorem bytes_beq(a b:ByteArray):(a.toList==b.toList)=(iS a==iS b):=by
 rw[gi,gi];unfold iS
 by_cases h:a.data.toList=b.data.toList
 ·simp[h]
 ·have d:¬(a.data.toList.map (·.toNat)=b.data.toList.map (·.toNat)):=fun c=>h (Av c)
  rw[beq_eq_false_iff_ne.2 h,beq_eq_false_iff_ne.2 d]
theorem GQ:∀a b:List UInt8,ho a b=jh (a.map (·.toNat)) (b.map (·.toNat))
 |[],[]=>rfl
 |_::_,[]=>rfl
 |[],_::_=>rfl
 |x::a,y::b=>by
  simp only[ho,hV,jh,GQ a b];congr 1
  ·congr 1
   by_cases h:x=y
   ·simp[h]
   ·have:¬x.toNat=y.toNat:=fun c=>h (l2.1 c);rw[beq_eq_false_iff_ne.2 h,beq_eq_false_iff_ne.2 this]
theorem aAw{c:dp}{T j:c8}{x y:c7}{a b:List Nat}{K:PV->Prop}(g:o.op= .binOp c T x y j)(hx:ρ x= .p (.str a))(q:ρ y= .p (.str b))
 (h:o6 c a b K)(aj:List (Nat×Obj)):∃v,K v/\bm P o ρ base {v:=.p v,aj}:=by
 have key:∀v,K v->(∀(w:dk)(aa:Nat->Prop)(s t:ByteArray),a=iS s->b=iS t->∃r,(ht c s t).run P w=.ok r w/\aA P w aa v r)->∃v,K v/\bm P o ρ base {v:=.p v,aj}:=by
  intro v n m;refine⟨v,n,bm.same fun H w aa ag β z u i _=>?_⟩;have e:=(i x (by simp[g,hh])).1;have f:=(i y (by simp[g,hh])).1;rw[hx]at e;rw[q]at f;simp only[ar,LF]at e f;obtain⟨s,e1,e2⟩:=e;obtain⟨t,e3,e4⟩:=f;obtain⟨r,r1,r2⟩:=m w aa s t e2 e4;refine⟨r,?_,by simpa only[ar]using r2,by simp[aB]⟩;simp only[db,g,e1,e3];refine ek ?_;have l:(eqGuard c T x y (.string s) (.string t)).run P w=.ok () w:=by
   unfold eqGuard
   split<;>simp
  have k:(binOp c T (.string s) (.string t)).run P w=.ok r w:=by
   cases c<;>first|(simp[o6]at h;done)|exact r1
  simp[l,k]
 have hl:∀s t:ByteArray,a=iS s->b=iS t->ho s.toList t.toList=jh a b/\(s.toList==t.toList)=(a==b):=by
  intro s t hs d;rw[bytes_beq,<-hs,<-d,GQ,gi,gi];exact⟨by rw[hs,d];rfl,rfl⟩
 cases c<;>simp only[o6]at h
 case add=>
  refine key _ h.2 fun w aa s t hs d=>⟨.string (s++t),run_string_add_sum w s t ?_,?_⟩
  ·have e:a.length=s.size:=by rw[hs];simp[iS]
   have f:b.length=t.size:=by rw[d];simp[iS]
   omega
  ·rw[LF];exact⟨_,rfl,by rw[hs,d];simp[iS,ByteArray.data_append]⟩
 case eql|neq|lss|leq|gtr|geq=>
  refine key _ h fun w aa s t hs d=>?_;obtain⟨e1,e2⟩:=hl s t hs d;exact⟨_,by simp only[ht,e1,e2];rfl,by simp[aA]⟩
theorem RS{T:c8}(h:qm P T=true):P.underlying T=some .bool:=by
 unfold qm at h
 split at h
 ·assumption
 ·simp at h
theorem GI{T:c8}{a b:da}{r:Bool}{w:dk}(h:(hm T a b).run P w= .ok r w)(d:(∃x,a= .bool x)\/(∃x,a= .agg x)\/(∃p n c,a= .slice p n c)\/(∃m,a= .map m)\/a= .nilFunc\/(∃f x y,a= .func f x y)\/(∃p,a= .pointer p)\/a= .nilIface):
 (binOp .eql T a b).run P w=.ok (.bool r) w/\(binOp .neq T a b).run P w=.ok (.bool !r) w:=by
 rcases d with⟨x,rfl⟩|⟨x,rfl⟩|⟨p,n,c,rfl⟩|⟨m,rfl⟩|rfl|⟨f,x,y,rfl⟩|⟨p,rfl⟩|rfl
 all_goals (constructor<;>(unfold binOp;simp[h]))
def ju.isAgg:ju->Bool
 | .agg _=>true
 |_=>false
theorem UT{T:c8}{t:ju}(hk:kindOf P T=t)(a:t≠.bad)(w:dk):(isAgg T).run P w=.ok t.isAgg w:=by
 unfold kindOf at hk;cases hu:P.underlying T with
 |none=>rw[hu]at hk;simp at hk;exact(a hk.symm).elim
 |some d=>
  rw[hu]at hk;simp only[isAgg,hE,c6 hu,hC];cases d<;>simp only at hk<;>(split at hk<;>first|(subst hk;rfl)|exact(a hk.symm).elim)
theorem qp{F:c8}{v:PV}{pre c post:List da}{cs:Array da}(hk:kindOf P F=aL v)(b:aV P w aa v c)(e:cs.toList=pre++c++post):
 ∃x,(part F cs pre.length).run P w=.ok x w/\aA P w aa v x:=by
 obtain⟨j,i,f,g⟩:=wT (v:=.p v) (β:=⟨id,id⟩) (H:=[]) (w:=w) (aa:=aa) hk (by simpa only[bg]using b);have d:=(nj b).2;have a:=UT hk d w;cases hs:aL v with
 |bad=>exact(d hs).elim
 |leaf=>
  rw[hs]at a;obtain⟨x,rfl,hx⟩:=(su hs c).1 b;refine⟨x,?_,hx⟩;have:cs[pre.length]?=some x:=by rw[<-b5,e];simp
  simp[part,a,this,ju.isAgg]
 |agg u=>
  rw[hs]at a;refine⟨.agg c.toArray,?_,(uV hs c).1 b⟩;have h:(sizeOf F).run P w=.ok c.length w:=by simp[sizeOf,typeInfo,f,g]
  have:cs.extract pre.length (pre.length+c.length)=c.toArray:=by
   apply b4;rw[Array.toList_extract,e];simp[List.extract_eq_take_drop]
  simp[part,a,h,this,ju.isAgg]
theorem uU{n:Nat}{b:List Nat}{v:PV}{vs:List PV}{a:List (List da)}(h:bc P w aa (n::b) (v::vs) a):∃c cs,a=c::cs/\aV P w aa v c/\c.length=n/\bc P w aa b vs cs:=by
 simpa only[bc]using h
theorem GO{eqF:c8->PV->PV->Option Bool}{d:Nat}(B:∀F a b r,eqF F a b=some r->kindOf P F=aL a->kindOf P F=aL b->∀x y,aA P w aa a x->aA P w aa b y->(hj d F x y).run P w= .ok r w){X Y:Array da}:
 ∀(fs:List ei)(l:List Nat)(j k:List PV)(r:Bool)(h m:List da)(o p:List (List da)),ie P eqF (fs.map (·.type)) j k=some r->fs.all (fun f=>f.name != "_")=true->
 (∀(i:Nat)(f:ei),fs[i]?=some f->f.offset=h.length+(l.take i).sum)->bc P w aa l j o->bc P w aa l k p->h.length=m.length->
 X.toList=h++o.flatten->Y.toList=m++p.flatten->(hp d X Y fs).run P w=.ok r w
 |[],l,j,k,r,h,m,o,p,e,_,_,_,_,_,_,_=>by
  cases j<;>cases k<;>simp[ie]at e;subst e;simp[hp]
 |f::fs,l,j,k,r,h,m,o,p,e,q,v,hx,L,A,t,hY=>by
  cases j with
  |nil=>simp[ie]at e
  |cons a j=>
   cases k with
   |nil=>simp[ie]at e
   |cons b k=>
    cases l with
    |nil=>simp[bc]at hx
    |cons n l=>
     simp only[hV,ie]at e
     split at e
     case isFalse=>simp at e
     rename_i hk
     split at e
     case h_2=>simp at e
     rename_i r1 r2 E G;simp at e;subst e;obtain⟨c,cs,rfl,hc,u,K⟩:=uU hx;obtain⟨c',s,rfl,H,I,M⟩:=uU L;simp only[List.all_cons,cE,bne_iff_ne]at q;have z:f.offset=h.length:=by simpa using v 0 f s_
     obtain⟨x,C,O⟩:=qp hk.1 hc (pre:=h) (post:=cs.flatten) (cs:=X) (by rw[t];simp);obtain⟨y,D,Q⟩:=qp hk.2 H (pre:=m) (post:=s.flatten) (cs:=Y) (by rw[hY];simp);have e1:=B _ _ _ _ E hk.1 hk.2 x y O Q;rw[<-z]at C;rw[<-A,<-z]at D;have N:=GO B fs l j k r2 (h++c) (m++c') cs s G q.2 (by
      intro i g J;have:=v (i+1) g (by simpa using J);rw[this,j7,kh,hT,u];omega) K M (by simp[A,u,I]) (by rw[t];simp) (by rw[hY];simp)
     simp only[hp,q.1,ne_eq,not_false_eq_true,if_true,hE,C,D,e1,hC];cases r1 with
     |false=>simp
     |true=>simpa using N
theorem EX{eqF:c8->PV->PV->Option Bool}{d:Nat}{e:c8}(u:∀a b r,eqF e a b=some r->∀x y,aA P w aa a x->aA P w aa b y->(hj d e x y).run P w= .ok r w){X Y:Array da}:
 ∀(n k:Nat)(g h:List PV)(r:Bool)(i j:List da)(l m:List (List da)),ie P eqF (hU n e) g h=some r->
 bc P w aa (hU n (P.cellsOf e)) g l->bc P w aa (hU n (P.cellsOf e)) h m->i.length=k*P.cellsOf e->j.length=k*P.cellsOf e->
 X.toList=i++l.flatten->Y.toList=j++m.flatten->(hr d e (P.cellsOf e) X Y (List.range' k n)).run P w=.ok r w
 |0,k,g,h,r,i,j,l,m,f,_,_,_,_,_,_=>by
  cases g<;>cases h<;>simp[ie]at f;subst f;simp[hr]
 |n+1,k,g,h,r,i,j,l,m,f,hx,t,q,s,p,hY=>by
  cases g with
  |nil=>simp[js,ie]at f
  |cons a g=>
   cases h with
   |nil=>simp[js,ie]at f
   |cons b h=>
    rw[js]at f hx t;simp only[ie]at f
    split at f
    case isFalse=>simp at f
    rename_i hk
    split at f
    case h_2=>simp at f
    rename_i r1 r2 A B;simp at f;subst f;obtain⟨c,cs,rfl,hc,D,F⟩:=uU hx;obtain⟨c',o,rfl,C,E,G⟩:=uU t;obtain⟨x,v,I⟩:=qp hk.1 hc (pre:=i) (post:=cs.flatten) (cs:=X) (by rw[p];simp);obtain⟨y,z,J⟩:=qp hk.2 C (pre:=j) (post:=o.flatten) (cs:=Y) (by rw[hY];simp);have e1:=u _ _ _ A x y I J;rw[q]at v;rw[s]at z;have H:=EX u n (k+1) g h r2 (i++c) (j++c') cs o B F G (by rw[hT,q,D,lk]) (by rw[hT,s,E,lk]) (by rw[p];simp) (by rw[hY];simp);rw[List.range'_succ];simp only[hr,hE,v,z,e1,hC];cases r1 with
    |false=>simp
    |true=>simpa using H
theorem xS:∀(n:Nat)(T:c8)(v v':PV)(r:Bool),fu P n T v v'=some r->∀x y,aA P w aa v x->aA P w aa v' y->∀d,n<=d->(hj d T x y).run P w=.ok r w
 |0,_,_,_,_,h,_,_,_,_,_,_=>by simp[fu]at h
 |n+1,T,v,v',r,h,x,y,hx,g,d,L=>by
  obtain⟨d,rfl⟩:∃e,d=e+1:=⟨d-1,o_⟩
  unfold fu at h
  split at h
  ·rename_i a b c;simp at h;subst h;simp only[aA]at hx g;subst hx;subst g;simp[hj,c6 c]
  ·rename_i k0 k a M b c
   split at h
   case isFalse=>simp at h
   rename_i hk;subst hk;simp at h;subst h;simp only[aA]at hx g;subst hx;subst g;exact run_equalIn_int w d T k k0 a b c
  ·rename_i a b c;simp at h;subst h;simp only[aA]at hx g;obtain⟨s,rfl,hs⟩:=hx;obtain⟨t,rfl,H⟩:=g;rw[run_equalIn_string w d T s t c,bytes_beq,hs,H];rfl
  ·rename_i fs u A u' B c
   split at h
   case isFalse=>simp at h
   rename_i hc;obtain⟨hk,rfl,G,E⟩:=hc;simp only[aA]at hx g;obtain⟨l,j,k1,k2,rfl⟩:=hx;obtain⟨D,o,k3,k4,rfl⟩:=g;rw[k1]at k3;cases k3;obtain⟨K,D,s1,s2,q,z,N,I⟩:=ue (P:=P) (T:=T) (u:=u') (n:=fs.size) (by unfold fN;rw[hk,c]);rw[c]at s1;cases s1;rw[k1]at z;cases z;have C:P.fieldsOf T=fs:=by simp[Program.fieldsOf,c]
   rw[run_equalIn_struct w d T _ _ (by rw[C];exact c) G,C];refine GO (eqF:=fu P n) (fun F a b r p _ _ x y hx g=>xS n F a b r p x y hx g d o_) fs.toList l A B r [] [] j o h E ?_ k2 k4 rfl s_ s_;intro i f hf;have hi:i<fs.size:=by
    have:=(hR.1 hf).1;simpa using this
   obtain⟨J,g1,g2,_⟩:=I i hi;rw[b5,g1]at hf;cases hf;simpa using g2
  ·rename_i m e u A u' B c
   split at h
   case isFalse=>simp at h
   rename_i hc;obtain⟨hk,rfl,hi⟩:=hc;simp only[aA]at hx g;obtain⟨l,j,k1,k2,rfl⟩:=hx;obtain⟨D,o,k3,k4,rfl⟩:=g;rw[k1]at k3;cases k3;obtain⟨e',s1,s2,q,z⟩:=sx (P:=P) (T:=T) (u:=u') (n:=m) (by unfold gU;rw[hk,c]);rw[c]at s1;cases s1;rw[k1]at q;cases q;obtain⟨i,hi⟩:=lq.1 hi;rw[run_equalIn_array w d _ _ c hi,List.range_eq_range'];exact EX (eqF:=fu P n) (fun a b r p x y hx g=>xS n e a b r p x y hx g d o_) m 0 A B r [] [] j o h k2 k4 s_ s_ s_ s_
  ·simp at h
end
section
variable{P:c9}{w:dk}{aa ag:Nat->Prop}{β:Bd}{H:Heap}
variable{o:Oper}{ρ:c7->AV}{base:Nat}
theorem CF{d:dp}{T B:c8}{x y:c7}{r:Bool}{K:PV->Prop}{l:List (Nat×Obj)}(k:o.op= .binOp d T x y B)
 (C:d=.eql/\K (.bool r)\/d=.neq/\K (.bool !r))
 (G:∀(H:Heap)(w:dk)(aa ag:Nat->Prop)(β:Bd)(a b:da),bX P w aa β H ag->(∀p∈l,H[p.1]?=some p.2)->ar P w aa β H (ρ x) a->ar P w aa β H (ρ y) b->(hm T a b).run P w=.ok r w/\
  ((∃x,a=.bool x)\/(∃x,a=.agg x)\/(∃p n c,a=.slice p n c)\/(∃m,a=.map m)\/a=.nilFunc\/(∃f x y,a=.func f x y)\/(∃p,a=.pointer p)\/(a=.nilIface/\lX y=true))/\(∀u v,a=.agg u->b=.agg v->P.eqGuardType P.depth T=false)):
 ∃v,K v/\bm P o ρ base {v:=.p v,aj:=l}:=by
 have key:∀v,K v->(∀(w:dk)(a b:da),(hm T a b).run P w= .ok r w->((∃x,a= .bool x)\/(∃x,a= .agg x)\/(∃p n c,a= .slice p n c)\/(∃m,a= .map m)\/a= .nilFunc\/(∃f x y,a= .func f x y)\/(∃p,a= .pointer p)\/a= .nilIface)->
  ∃q,v=.bool q/\(binOp d T a b).run P w=.ok (.bool q) w)->∃v,K v/\bm P o ρ base {v:=.p v,aj:=l}:=by
  intro v I hq;refine⟨v,I,bm.same fun H w aa ag β s F t aj=>?_⟩;obtain⟨r1,r2,z⟩:=G H w aa ag β _ _ F aj (t x (by simp[k,hh])).1 (t y (by simp[k,hh])).1;obtain⟨q,rfl,E⟩:=hq w _ _ r1 (by rcases r2 with h|h|h|h|h|h|h|h<;>simp[h]);refine⟨.bool q,?_,by simp[ar,aA],by simp[aB]⟩;simp only[db,k];refine ek ?_;have D:(eqGuard d T x y (s x) (s y)).run P w=.ok () w:=by
   rcases r2 with⟨p,e⟩|⟨p,e⟩|⟨p,n,c,e⟩|⟨m,e⟩|e|⟨f,J,L,e⟩|⟨p,e⟩|⟨e,hc⟩
   all_goals rw[e]at z⊢
   case inr.inl=>
    cases hy:s y with
    |agg A=>
     exact run_eqGuard_agg w d T x y p A (z p A rfl hy)
    |_=>cases d<;>rfl
   case inr.inr.inr.inr.inr.inr.inr=>
    cases y<;>simp[lX]at hc;unfold eqGuard;cases d<;>simp<;>(split<;>simp_all)
   all_goals (cases d<;>rfl)
  simp[D,E]
 rcases C with⟨rfl,j⟩|⟨rfl,j⟩
 ·exact key _ j fun w a b g i=>⟨_,rfl,(GI g i).1⟩
 ·exact key _ j fun w a b g i=>⟨_,rfl,(GI g i).2⟩
theorem xP(T:c8)(a b:da):∃d,9<=d+1/\hm T a b=hj (d+1) T a b:=⟨9999,o_,rfl⟩
theorem H4{T:c8}{c:Bool}{b:AV}{k:tO}(h:dA P T c b=some k):
 (k=.ptr/\b=.p .dE/\∃e,P.underlying T=some (.pointer e))\/(k=.slice/\b=.p .aK/\∃e,P.underlying T=some (.slice e))\/
 (k=.map/\b=.p .fx/\∃e f,P.underlying T=some (.map e f))\/(k=.func/\b=.p .gW/\∃e f g,P.underlying T=some (.func e f g))\/(k=.iface/\b=.p .fP/\c=true/\∃m,P.underlying T=some (.interface m)):=by
 unfold dA at h
 split at h<;>first
  |(split at h
    ·rename_i a;simp at h;subst h;simp[a]
    ·simp at h)
  |simp at h
theorem aAb{T:c8}{c:Bool}{H0:Heap}{a b:AV}{r:Bool}{k:tO}(hk:dA P T c b=some k)(h:cV H0 k a=some r){l s:da}(aj:∀p∈dB H0 a,H[p.1]?=some p.2)(i:ar P w aa β H a l)(C:ar P w aa β H b s):
 (hm T l s).run P w=.ok r w/\((∃x,l=.bool x)\/(∃x,l=.agg x)\/(∃p n c,l=.slice p n c)\/(∃m,l=.map m)\/l=.nilFunc\/(∃f x y,l=.func f x y)\/(∃p,l=.pointer p)\/(l=.nilIface/\c=true))/\(∀u v,l=.agg u->s=.agg v->P.eqGuardType P.depth T=false):=by
 obtain⟨d,_,I⟩:=xP T l s;rw[I];rcases H4 hk with⟨rfl,rfl,e,j⟩|⟨rfl,rfl,e,j⟩|⟨rfl,rfl,e,f,j⟩|⟨rfl,rfl,e,f,g,j⟩|⟨rfl,rfl,G,m,j⟩
 all_goals simp only[ar,aA]at C
 all_goals subst C
 ·cases a<;>simp only[cV]at h
  case p v=>
   cases v<;>simp only at h<;>simp at h
   all_goals subst h
   all_goals simp only[ar,aA]at i
   ·subst i;simp[hj,c6 j]
   ·obtain⟨_,_,_,_,_,_,rfl⟩:=i;simp[hj,c6 j]
  case ptr B path=>
   simp only[ar,bH,bP]at i;obtain⟨_,_,_,_,rfl,_⟩:=i
   split at h
   ·simp at h;subst h;simp[hj,c6 j]
   ·simp at h
  all_goals simp at h
 ·cases a<;>simp only[cV]at h
  case p v=>
   cases v
   case seq o=>
    cases o with
    |nil=>simp at h
    |cons e o=>
     simp at h;subst h;simp only[ar,aA]at i;rcases i with⟨J,_⟩|⟨_,_,_,_,_,_,_,_,_,_,_,rfl⟩
     ·cases J
     ·simp[hj,c6 j]
   all_goals simp only at h
   all_goals simp at h
   all_goals subst h
   all_goals simp only[ar,aA]at i
   ·subst i;simp[hj,c6 j]
   ·obtain⟨_,_,_,_,_,_,_,_,_,_,_,_,rfl⟩:=i;simp[hj,c6 j]
  case sl B an ai off len=>
   simp only[ar,bH,bP]at i;simp only[dB]at aj
   split at h
   case h_2=>simp at h
   rename_i A M L o t;rw[t]at aj;have z:=aj _ (ix.2 rfl)
   split at h
   case isFalse=>simp at h
   rename_i hc;obtain⟨rfl,rfl⟩:=hc;obtain⟨_,E,F⟩:=i.2 A o z
   by_cases q:dc A o
   ·rw[E q];have:r=true:=by simp at h;rw[<-h];simp[q.1,q.2]
    subst this;simp[hj,c6 j]
   ·rw[F q];have:r=false:=by
     simp at h;rw[<-h];unfold dc at q
     by_cases D:A.gr=true
     ·have K:o≠[]:=fun h=>q ⟨D,h⟩;simp[K]
     ·simp[D]
    subst this;simp[hj,c6 j]
  all_goals simp at h
 ·cases a<;>simp only[cV]at h
  case p v=>
   cases v<;>simp only at h<;>simp at h
   all_goals subst h
   all_goals simp only[ar,aA]at i
   ·subst i;simp[hj,c6 j]
   ·obtain⟨_,_,_,_,_,_,rfl⟩:=i;simp[hj,c6 j]
  case map B=>
   simp only[ar,bH,bP]at i;simp only[dB]at aj
   split at h
   case h_2=>simp at h
   rename_i fz o t;rw[t]at aj;have z:=aj _ (ix.2 rfl);rw[i.2.1 ⟨_,z,trivial⟩];simp at h;subst h;simp[hj,c6 j]
  all_goals simp at h
 ·cases a<;>simp only[cV]at h
  case p v=>
   cases v<;>simp only at h<;>simp at h
   all_goals subst h
   all_goals simp only[ar,aA]at i
   ·obtain⟨_,_,_,_,rfl⟩:=i;simp[hj,c6 j]
   ·subst i;simp[hj,c6 j]
  case func f first ib=>
   simp only[ar]at i;obtain⟨_,_,_,_,rfl⟩:=i;simp at h;subst h;simp[hj,c6 j]
  all_goals simp at h
 ·cases a<;>simp only[cV]at h
  case p v=>
   cases v<;>simp only at h<;>simp at h
   all_goals subst h
   all_goals simp only[ar,aA]at i
   subst i;simp[hj,c6 j,G]
  all_goals simp at h
theorem aAn{i:dp}{T s:c8}{x y:c7}{K:PV->Prop}{H0:Heap}(j:o.op= .binOp i T x y s)(h:kj P i T (lX y) H0 (ρ x) (ρ y) K):
 ∃v,K v/\bm P o ρ base {v:=.p v,aj:=dB H0 (ρ x)}:=by
 unfold kj at h
 split at h
 ·rename_i k a C b hx g;exact aAr j hx g h.1 h.2 _
 ·rename_i a b hx g;exact aAw j hx g h _
 ·rename_i a b hx g;obtain⟨z,h⟩:=h;have m:=RS z;refine CF (r:=a==b) j ?_ ?_
  ·split at h
   ·exact .inl ⟨rfl,h⟩
   ·exact .inr ⟨rfl,h⟩
   ·exact h.elim
  ·intro H w aa ag β n q e aj f c;rw[hx]at f;rw[g]at c;simp only[ar,aA]at f c;subst f;subst c;obtain⟨d,_,l⟩:=xP T (.bool a) (.bool b);rw[l];exact⟨by simp[hj,c6 m],.inl ⟨_,rfl⟩,fun u v m _=>by cases m⟩
 ·rename_i u fs u' t hx g;obtain⟨B,h⟩:=h;obtain⟨r,e,c⟩:∃r,fu P 9 T (.st u fs) (.st u' t)=some r/\(i=.eql/\K (.bool r)\/i=.neq/\K (.bool !r)):=by
   split at h
   ·rename_i r e;exact⟨r,e,.inl ⟨rfl,h⟩⟩
   ·rename_i r e;exact⟨r,e,.inr ⟨rfl,h⟩⟩
   ·exact h.elim
  refine CF (r:=r) j c ?_;intro H w aa ag β n q _ aj f c;rw[hx]at f;rw[g]at c;simp only[ar]at f c;refine⟨?_,?_,fun u v _ _=>by simpa[nR]using B⟩
  ·obtain⟨d,A,l⟩:=xP T n q;rw[l];exact xS 9 T _ _ r e _ _ f c (d+1) A
  ·simp only[aA]at f;obtain⟨_,_,_,_,rfl⟩:=f;exact .inr (.inl ⟨_,rfl⟩)
 ·rename_i hx g
  split at h
  case h_2=>exact h.elim
  rename_i k hk;obtain⟨r,e,c⟩:∃r,cV H0 k (ρ x)=some r/\(i=.eql/\K (.bool r)\/i=.neq/\K (.bool !r)):=by
   split at h
   ·rename_i r e;exact⟨r,e,.inl ⟨rfl,h⟩⟩
   ·rename_i r e;exact⟨r,e,.inr ⟨rfl,h⟩⟩
   ·exact h.elim
  exact CF (r:=r) j c fun H w aa ag β n q _ aj f c=>aAb hk e aj f c
end
section
variable{P:c9}{w:dk}{aa ag:Nat->Prop}{β:Bd}{H:Heap}
variable{o:Oper}{ρ:c7->AV}{base:Nat}
theorem nv{c:c7->da}:∀(l:List c7),(∀x∈l,ar P w aa β H (ρ x) (c x)/\aB (aH H) (ρ x))->bh P w aa β H (l.map ρ) (l.map c)/\aR (aH H) (l.map ρ)
 |[],_=>by simp[bh,aR]
 |x::l,h=>by
  have a:=h x s_;have b:=nv l (fun y d=>h y (by simp[d]));simp only[hV,bh,aR];exact⟨⟨_,_,rfl,a.1,b.1⟩,a.2,b.2⟩
theorem xJ{H0:Heap}:∀(l:List AV){j:List PV}{aj aG:List (Nat×Obj)}{H:Heap}{aa:Nat->Prop}{vs:List da},fD H0 l=some (j,aj,aG)->bX P w aa β H ag->bh P w aa β H l vs->aR (aH H) l->
 (∀p∈aj,∃f fz t,p.2=.box fz t/\H[p.1]?=some (.box f t))->∃aD,bV P ag aa w β H aD w β (aX H aG)/\bf P w aD j vs/\∀p∈aG,p.1<H0.length/\p.2≠.hole
 |[],j,aj,aG,H,aa,vs,h,i,e,_,_=>by
  simp[fD]at h;obtain⟨rfl,rfl,rfl⟩:=h;simp only[bh]at e;exact⟨aa,bV.refl i,by simpa[bf]using e,s_⟩
 |a::l,j,aj,aG,H,aa,vs,h,i,e,d,m=>by
  simp only[bh]at e;obtain⟨y,x,rfl,n,u⟩:=e;simp only[aR]at d;cases a with
  |p v=>
   simp only[fD]at h
   split at h
   case h_2=>simp at h
   rename_i G B E k;simp at h;obtain⟨rfl,rfl,rfl⟩:=h;obtain⟨aD,q1,o,q⟩:=xJ l k i u d.2 m;simp only[ar]at n;exact⟨aD,q1,by simp only[bf];exact⟨y,x,rfl,aA.mono q1.bR (fun _ _=>rfl) _ _ n,o⟩,q⟩
  |ptr b path=>
   cases path with
   |cons _ _=>simp[fD]at h
   |nil=>
    simp only[fD]at h
    split at h
    case h_2=>simp at h
    rename_i fz t G B E C k;simp at h;obtain⟨rfl,rfl,rfl⟩:=h;obtain⟨f,J,K,e1,e2⟩:=m (b,.box fz (.p t)) s_;cases e1;have D:kH H (.ptr b [])=some (.cq t,H.set b (.box true (.p t))):=by
     simp only at e2;simp[kH,e2,kJ]
    obtain⟨I,g,F⟩:=IU D i n d.1;have A:b<H.length:=(hR.1 e2).1;obtain⟨z,q1,o,q⟩:=xJ l k g.rel (bh.mono g.bR (fun _ _=>rfl) g.step _ _ d.2 u) (aR.mono g.fp _ d.2) (by
     intro p c;obtain⟨f2,r,t2,g1,g2⟩:=m p (by simp[c])
     by_cases s:b=p.1
     ·rw[<-s]at g2⊢;simp only at e2;rw[e2]at g2;cases g2;exact⟨true,r,_,g1,by rw[hS A]⟩
     ·exact⟨f2,r,t2,g1,by rw[h3 s];exact g2⟩)
    refine⟨z,by simpa only[aX]using g.trans q1,?_,?_⟩
    ·simp only[bf];exact⟨y,x,rfl,aA.mono q1.bR (fun _ _=>rfl) _ _ F,o⟩
    ·intro p c;rcases hX.1 c with rfl|c
     ·exact⟨(hR.1 C).1,s_⟩
     ·exact q p c
  |_=>simp[fD]at h
theorem SY{f:dg}{fi ca:Array c7}(E:o.op= .makeFunc (.func f) fi ca):
 (∀a b,eH (fi.toList.map ρ)=some a->eH (ca.toList.map ρ)=some b->bm P o ρ base {v:=.p (.func f a b)})/\
 bm P o ρ base {v:=.func f (fi.toList.map ρ) (ca.toList.map ρ)}/\
 (∀(H0:Heap) a b aj aG,fD H0 (fi.toList.map ρ)=some (a,[],[])->fD H0 (ca.toList.map ρ)=some (b,aj,aG)->bm P o ρ base {v:=.p (.func f a b),aj,aG}/\(∀p∈aj,H0[p.1]?=some p.2)/\(∀p∈aG,p.1<H0.length/\p.2≠.hole)):=by
 have g:∀x,x∈fi.toList\/x∈ca.toList->x∈o.op.operands:=by
  intro x hx;rw[E];simp only[hh,Array.mem_append];simpa using hx
 have u:∀(c:c7->da)(w:dk),(db c o).run P w=.ok (.value (.func (.func f) (fi.toList.map c).toArray (ca.toList.map c).toArray)) w:=by
  intro c w;simp only[db,E];refine ek ?_;have j:(fi.toList.map c).toArray=fi.map c:=by apply b4;simp
  have k:(ca.toList.map c).toArray=ca.map c:=by apply b4;simp
  rw[j,k];simp[Instr.makeFunc]
 refine⟨?_,?_,?_⟩
 ·intro a b s m;refine bm.same fun H w aa ag β c z e _=>⟨_,u c w,?_,by simp[aB]⟩
  obtain⟨j,_⟩:=nv fi.toList (fun x hx=>e x (g x (.inl hx)));obtain⟨k,_⟩:=nv ca.toList (fun x hx=>e x (g x (.inr hx)));rw[lG s]at j;rw[lG m]at k;simp only[ar,aA];exact⟨_,_,jB.1 j,jB.1 k,rfl⟩
 ·refine bm.same fun H w aa ag β c z e _=>⟨_,u c w,?_,?_⟩
  ·simp only[ar];exact⟨_,_,(nv fi.toList (fun x hx=>e x (g x (.inl hx)))).1,(nv ca.toList (fun x hx=>e x (g x (.inr hx)))).1,rfl⟩
  ·simp only[aB];exact⟨(nv fi.toList (fun x hx=>e x (g x (.inl hx)))).2,(nv ca.toList (fun x hx=>e x (g x (.inr hx)))).2⟩
 ·intro H0 a b aj aG s m;have D:∀p∈aj,H0[p.1]?=some p.2/\∃fz t,p.2=.box fz t:=by
   have:∀(l:List AV)(b:List PV)(aj aG:List (Nat×Obj)),fD H0 l=some (b,aj,aG)->∀p∈aj,H0[p.1]?=some p.2/\∃fz t,p.2=.box fz t:=by
    intro l
    induction l with
    |nil=>intro b aj aG h;simp[fD]at h;obtain⟨rfl,rfl,rfl⟩:=h;simp
    |cons x l q=>
     intro b aj aG h;cases x with
     |p v=>
      simp only[fD]at h
      split at h
      case h_2=>simp at h
      rename_i B n A i;simp at h;obtain⟨rfl,rfl,rfl⟩:=h;exact q _ _ _ i
     |ptr I path=>
      cases path with
      |cons _ _=>simp[fD]at h
      |nil=>
       simp only[fD]at h
       split at h
       case h_2=>simp at h
       rename_i fz t B n A y i;simp at h;obtain⟨rfl,rfl,rfl⟩:=h;intro p d;rcases hX.1 d with rfl|d
       ·exact⟨y,_,_,rfl⟩
       ·exact q _ _ _ i p d
     |_=>simp[fD]at h
   exact this _ _ _ _ m
  have J:∀p∈aG,p.1<H0.length/\p.2≠.hole:=by
   have:∀(l:List AV)(b:List PV)(aj aG:List (Nat×Obj)),fD H0 l=some (b,aj,aG)->∀p∈aG,p.1<H0.length/\p.2≠.hole:=by
    intro l
    induction l with
    |nil=>intro b aj aG h;simp[fD]at h;obtain⟨rfl,rfl,rfl⟩:=h;simp
    |cons x l q=>
     intro b aj aG h;cases x with
     |p v=>
      simp only[fD]at h
      split at h
      case h_2=>simp at h
      rename_i B n A i;simp at h;obtain⟨rfl,rfl,rfl⟩:=h;exact q _ _ _ i
     |ptr I path=>
      cases path with
      |cons _ _=>simp[fD]at h
      |nil=>
       simp only[fD]at h
       split at h
       case h_2=>simp at h
       rename_i fz t B n A y i;simp at h;obtain⟨rfl,rfl,rfl⟩:=h;intro p d;rcases hX.1 d with rfl|d
       ·exact⟨(hR.1 y).1,s_⟩
       ·exact q _ _ _ i p d
     |_=>simp[fD]at h
   exact this _ _ _ _ m
  refine⟨?_,fun p d=>(D p d).1,J⟩;intro H w aa ag β c z e n _;obtain⟨j,r1⟩:=nv fi.toList (fun x hx=>e x (g x (.inl hx)));obtain⟨k,r2⟩:=nv ca.toList (fun x hx=>e x (g x (.inr hx)));obtain⟨M,r,K,_⟩:=xJ _ s z j r1 s_;simp only[aX]at r;obtain⟨G,q1,L,_⟩:=xJ _ m r.rel (bh.mono r.bR (fun _ _=>rfl) r.step _ _ r2 k) r2 (by
   intro p d;obtain⟨_,fz,t,F⟩:=D p d;have C:=n p d;rw[F]at C;exact⟨fz,fz,t,F,C⟩)
  simp only[newAt,hW];refine⟨_,_,w,β,G,u c w,.inl rfl,r.trans q1,?_,by simp[aB]⟩;simp only[ar,aA];exact⟨_,_,bf.mono q1.bR (fun _ _=>rfl) _ _ K,L,rfl⟩
theorem AB{x:c7}(d:o.op=.nilCheck x)(h:(∃b p,ρ x=.ptr b p)\/(∃b v e i p,ρ x=.b6 b v e i p)\/∃t,ρ x=.p (.cq t)):bm P o ρ base {v:=ρ x}:=by
 refine bm.same fun H w aa ag β f l k aj=>?_;have c:=k x (by simp[d,hh]);refine⟨f x,?_,c⟩;have j:∃a,f x=.pointer (some a):=by
  rcases h with⟨b,p,hx⟩|⟨b,v,e,i,p,hx⟩|⟨t,hx⟩
  ·have c:=c.1;rw[hx]at c;simp only[ar,bH,bP]at c;obtain⟨_,_,_,_,h,_⟩:=c;exact⟨_,h⟩
  ·have c:=c.1;rw[hx]at c;simp only[ar,bH,bP]at c;obtain⟨_,_,_,_,h,_⟩:=c;exact⟨_,h⟩
  ·have c:=c.1;rw[hx]at c;simp only[ar,aA]at c;obtain⟨_,_,_,_,_,_,h⟩:=c;exact⟨_,h⟩
 obtain⟨a,g⟩:=j;simp[db,d,g]
end
section
variable{P:c9}{w:dk}{aa ag:Nat->Prop}{β:Bd}{H:Heap}
variable{o:Oper}{ρ:c7->AV}{base:Nat}
open Go.MapKept
def kf:PV->Prop
 | .st _ _=>False
 |_=>True
theorem Ct{T:c8}{key:PV}(h:kf key)(k:PV):po P T key k=iC key k:=by
 cases key<;>first
  |exact h.elim
  |rfl
theorem R4{T:c8}{key:PV}(h:kf key)(a:List (PV×PV)):lM P T a key=fT P T a key:=by
 cases key<;>first
  |exact h.elim
  |rfl
theorem xk{T:c8}{key:PV}{b:da}(h:eO P T key=true)(hl:kf key)(a:aA P w aa key b):∃d,P.underlying T=some d/\IsKey d b:=by
 unfold eO at h
 split at h
 ·split at h
  ·rename_i c;simp at h;subst h;simp only[aA]at a;subst a;exact⟨_,c,by simp[IsKey]⟩
  ·simp at h
 ·simp only[aA]at a;obtain⟨bs,rfl,_⟩:=a;exact⟨_,xa h,by simp[IsKey]⟩
 ·exact hl.elim
 ·simp at h
theorem yM{T:c8}{d:et}(j:P.underlying T=some d){key g:PV}{i v':da}{r:Bool}(h:eO P T key=true)(hl:kf key)(c:iC key g=some r)(e:aA P w aa key i)(f:aA P w aa g v'):
 hb d i v'=some r/\(r=true->i=v'):=by
 unfold eO at h
 split at h
 ·split at h
  ·rename_i k;simp at h;subst h;rw[j]at k;cases k;cases g<;>simp only[iC]at c<;>try (simp at c;done)
   split at c
   ·rename_i hk;subst hk;simp at c;subst c;simp only[aA]at e f;subst e;subst f;simp[hb]
   ·simp at c
  ·simp at h
 ·rename_i hs;have:=xa h;rw[j]at this;cases this;cases g<;>simp only[iC]at c<;>try (simp at c;done)
  simp at c;subst c;simp only[aA]at e f;obtain⟨a,rfl,e1⟩:=e;obtain⟨b,rfl,e2⟩:=f;subst e1;subst e2;have n:(j6 (fun x:UInt8=>x.toNat) a.data.toList=j6 (fun x:UInt8=>x.toNat) b.data.toList)↔a=b:=by
   constructor
   ·intro h;have:=Av h;apply ByteArray.ext;apply b4;exact this
   ·intro h;rw[h]
  by_cases hc:a=b
  ·subst hc;simp[hb,hg]
  ·have l:¬(j6 (fun x:UInt8=>x.toNat) a.data.toList=j6 (fun x:UInt8=>x.toNat) b.data.toList):=fun h=>hc (n.1 h);have m:(a==b)=false:=by
    cases o:(a==b)with
    |false=>rfl
    |true=>exact(hc ((hg a b).1 o)).elim
   simp[hb,l,m]
 ·exact hl.elim
 ·simp at h
theorem BO{T:c8}{d:et}(o:P.underlying T=some d){key:PV}{g:da}(hk:eO P T key=true)(m:kf key)(l:aA P w aa key g):∀(b:List (PV×PV))(a:List dl)(i:Nat)(r:Option PV),cz P w aa b a->fT P T b key=some r->
 (r=none/\gl d g a i=some none)\/∃v j e,r=some v/\gl d g a i=some (some (i+j,e.val))/\a[j]?=some e/\aA P w aa v e.val/\e.key=g/\
  (∀(x:PV)(k:da),aA P w aa x k->cz P w aa (gA b key x) (a.modify j fun e=>{e with key:=g,val:=k}))
 |[],a,i,r,f,h=>by
  simp only[cz]at f;simp[fT]at h;subst f;subst h;exact .inl ⟨rfl,rfl⟩
 |(s,v')::b,a,i,r,f,h=>by
  simp only[cz]at f;obtain⟨e,rest,rfl,n,p,q⟩:=f;simp only[fT,Ct m]at h
  split at h
  ·rename_i c;simp at h;subst h;obtain⟨g1,g2⟩:=yM o hk m c l n;refine .inr ⟨v',0,e,rfl,by simp[gl,g1],rfl,p,(g2 rfl).symm,fun x k hx=>?_⟩;simp only[gA,c,if_true];simp only[cz];exact⟨_,rest,rfl,l,hx,q⟩
  ·rename_i c;obtain⟨g1,g2⟩:=yM o hk m c l n;rcases BO o hk m l b rest (i+1) r q h with⟨rfl,f1⟩|⟨v,j,e',rfl,f1,f2,f3,f4,f5⟩
   ·exact .inl ⟨rfl,by simp[gl,g1,f1]⟩
   ·refine .inr ⟨v,j+1,e',rfl,by simp[gl,g1,f1];omega,by simpa using f2,f3,f4,fun x k hx=>?_⟩;simp only[gA,c];rw[if_neg s_];simp only[cz];exact⟨e,_,by simp[List.modify_succ_cons],n,p,f5 x k hx⟩
  ·simp at h
theorem Hi{X:Array da}{y:c8->PV->PV->Option Bool}(e:Bool)(n:Nat):
 ∀(fs:List ei)(l:List Nat)(b:List PV)(r:Bool)(d:List da)(o:List (List da)),ie P y (fs.map (·.type)) b b=some r->(∀f∈fs,f.name≠ "_" /\sG P f.type=true)->
 (∀(i:Nat)(f:ei),fs[i]?=some f->f.offset=d.length+(l.take i).sum)->bc P w aa l b o->
 X.toList=d++o.flatten->(forIn fs lz (fun f _=>if f.name≠ "_" then(do
  let x<-part f.type X f.offset
  gx e (n+1) f.type x
  pure (ForInStep.yield lz))else pure (ForInStep.yield lz):ei->PUnit->Sem (ForInStep PUnit))).run P w=.ok lz w
 |[],l,b,r,d,o,_,_,_,_,_=>by simp
 |f::fs,l,b,r,d,o,h,s,t,hx,q=>by
  cases b with
  |nil=>simp[ie]at h
  |cons a b=>
   cases l with
   |nil=>simp[bc]at hx
   |cons m l=>
    simp only[hV,ie]at h
    split at h
    case isFalse=>simp at h
    rename_i hk
    split at h
    case h_2=>simp at h
    rename_i r1 r2 G z;obtain⟨c,cs,rfl,hc,A,E⟩:=uU hx;obtain⟨C,p⟩:=s f s_;have D:f.offset=d.length:=by simpa using t 0 f s_
    obtain⟨x,u,H⟩:=qp hk.1 hc (pre:=d) (post:=cs.flatten) (cs:=X) (by rw[q];simp);rw[<-D]at u;have v:(gx e (n+1) f.type x).run P w=.ok () w:=by
     unfold sG at p;unfold gx
     split at p
     ·rename_i k j;simp[c6 j]
     ·rename_i j;simp[c6 j]
     ·rename_i j;simp[c6 j]
     ·cases p
    have F:=Hi e n fs l b r2 (d++c) cs z (fun f hf=>s f (by simp[hf])) (by
     intro i g B;have:=t (i+1) g (by simpa using B);rw[this,j7,kh,hT,A];omega) E (by rw[q];simp)
    rw[List.forIn_cons];simp only[C,ne_eq,not_false_eq_true,if_true,hE,u,v,hC,hF];exact F
theorem Rt{T:c8}{cA:Array ei}{u:Nat}{fs:List PV}{g:da}(b:P.underlying T=some (.struct cA))(j:cA.toList.all (fun f=>f.name != "_" &&sG P f.type)=true)(a:(fu P 9 T (.st u fs) (.st u fs)).isSome=true)(d:aA P w aa (.st u fs) g)(e:Bool):
 (gx e 10000 T g).run P w=.ok () w:=by
 obtain⟨r,a⟩:=lq.1 a;unfold fu at a;simp only[b]at a
 split at a
 case isFalse=>simp at a
 rename_i hc;obtain⟨hk,-,-,-⟩:=hc;simp only[aA]at d;obtain⟨l,c,k1,k2,rfl⟩:=d;obtain⟨o,p,s1,s2,q,h,s,k⟩:=ue (P:=P) (T:=T) (u:=u) (n:=cA.size) (by unfold fN;rw[hk,b]);rw[b]at s1;cases s1;rw[k1]at h;cases h;have key:=Hi (w:=w) (aa:=aa) (X:=c.flatten.toArray) e 9998 cA.toList l fs r [] c a (fun f hf=>by
  have:=h8.1 j f hf;simpa using this) (by
   intro i f hf;have hi:i<cA.size:=by
    have:=(hR.1 hf).1;simpa using this
   obtain⟨m,g1,g2,_⟩:=k i hi;rw[b5,g1]at hf;cases hf;simpa using g2) k2 s_
 unfold gx;simp only[hE,c6 b,hC];rw[<-Array.forIn_toList];rw[key];simp
theorem Bo{T:c8}{u:Nat}{fs:List PV}{g:da}(p:aA P w aa (.st u fs) g):∀(k:List (PV×PV))(f:List dl)(i:Nat)(r:Option PV),cz P w aa k f->fT P T k (.st u fs)=some r->
 (r=none/\(gt T g f i).run P w=.ok none w/\∀x n born,aA P w aa x n->cz P w aa (gA k (.st u fs) x) (f++[{key:=g,val:=n,born}]))\/∃(v:PV)(j:Nat)(e:dl),r=some v/\(gt T g f i).run P w=.ok (some (i+j,e.val)) w/\aA P w aa v e.val
 |[],f,i,r,m,h=>by
  simp only[cz]at m;simp[fT]at h;subst m;subst h;refine .inl ⟨rfl,by simp[gt],fun x n born hx=>?_⟩;simp only[gA,cz];exact⟨_,[],rfl,p,hx,rfl⟩
 |(y,v')::k,f,i,r,m,h=>by
  simp only[cz]at m;obtain⟨e,rest,rfl,s,t,z⟩:=m;simp only[fT]at h;have q:∀b,po P T (.st u fs) y=some b->(hm T g e.key).run P w=.ok b w/\iC (.st u fs) y=some b:=by
   intro b l;simp only[po]at l
   split at l
   ·rename_i a c A hc;cases a<;>cases c<;>simp at l<;>subst l<;>
    ·obtain⟨d,B,hq⟩:=xP T g e.key;rw[hq];exact⟨xS 9 T _ _ _ A _ _ p s _ B,hc⟩
   ·simp at l
  split at h
  ·rename_i o;simp at h;subst h;obtain⟨g1,g2⟩:=q _ o;exact .inr ⟨v',0,e,rfl,by simp[gt,g1],t⟩
  ·rename_i o;obtain⟨g1,g2⟩:=q _ o;rcases Bo p k rest (i+1) r z h with⟨rfl,f1,f2⟩|⟨v,j,e',rfl,f1,f3⟩
   ·refine .inl ⟨rfl,by simp[gt,g1,f1],fun x n born hx=>?_⟩;simp only[gA,g2];rw[if_neg s_];simp only[cz];exact⟨e,_,rfl,s,t,f2 x n born hx⟩
   ·refine .inr ⟨v,j+1,e',rfl,?_,f3⟩;simp[gt,g1,f1];omega
  ·simp at h
theorem BP{T:c8}{cA:Array ei}(c:P.underlying T=some (.struct cA)){b:da}{a:List dl}{f:Option (Nat×da)}(h:(gt T b a 0).run P w=.ok f w):(g0 T b a).run P w=.ok f w:=by
 unfold g0;simp only[hE,c6 c,hC];cases a with
 |nil=>
  simp only[gl];simpa[gt]using h
 |cons e es=>
  have:gl (.struct cA) b (e::es) 0=none:=by simp[gl,hb]
  rw[this];exact h
theorem AW{T:c8}{key:PV}(h:eO P T key=true)(hl:¬kf key):∃u fs cA,key= .st u fs/\P.underlying T=some (.struct cA)/\cA.toList.all (fun f=>f.name != "_" &&sG P f.type)=true/\(fu P 9 T (.st u fs) (.st u fs)).isSome=true:=by
 cases key<;>first
  |exact(hl trivial).elim
  |skip
 rename_i u fs;simp only[eO]at h
 split at h
 ·rename_i cA a;rw[cE]at h;exact⟨u,fs,cA,rfl,a,h.1,h.2⟩
 ·cases h
theorem Kk{T:c8}{key:PV}{g:da}(hk:eO P T key=true)(f:aA P w aa key g){b:List (PV×PV)}{a:List dl}{r:Option PV}(k:cz P w aa b a)(h:fT P T b key=some r):
 (∀e,(gx e 10000 T g).run P w=.ok () w)/\
 ((r=none/\(g0 T g a).run P w=.ok none w)\/∃(v:PV)(j:Nat)(e:dl),r=some v/\(g0 T g a).run P w=.ok (some (j,e.val)) w/\aA P w aa v e.val):=by
 by_cases hl:kf key
 ·obtain⟨d,c,n⟩:=xk hk hl f;refine⟨fun e=>run_checkKey c n _ 9999,?_⟩;rcases BO c hk hl f b a 0 r k h with⟨rfl,f1⟩|⟨v,j,e,rfl,f1,f2,f3,f4,_⟩
  ·exact .inl ⟨rfl,run_findKey c f1⟩
  ·exact .inr ⟨v,0+j,e,rfl,run_findKey c f1,f3⟩
 ·obtain⟨u,fs,cA,rfl,i,l,m⟩:=AW hk hl;refine⟨fun e=>Rt i l m f e,?_⟩;rcases Bo f b a 0 r k h with⟨rfl,f1,_⟩|⟨v,j,e,rfl,f1,f3⟩
  ·exact .inl ⟨rfl,BP i f1⟩
  ·exact .inr ⟨v,0+j,e,rfl,BP i f1,f3⟩
theorem Hc{T:c8}{key x:PV}{g i:da}(d:aA P w aa key g)(hx:aA P w aa x i)(born:Nat):∀(a:List (PV×PV))(c:List dl),kf key->cz P w aa a c->fT P T a key=some none->cz P w aa (gA a key x) (c++[{key:=g,val:=i,born}])
 |[],c,_,b,_=>by
  simp only[cz]at b;subst b;simp only[gA,cz];exact⟨_,[],rfl,d,hx,rfl⟩
 |(n,v')::a,c,f,b,h=>by
  simp only[cz]at b;obtain⟨e,rest,rfl,j,k,l⟩:=b;simp only[fT,Ct f]at h
  split at h
  ·simp at h
  ·rename_i m;simp only[gA,m];rw[if_neg s_];simp only[cz];exact⟨e,_,rfl,j,k,Hc (T:=T) d hx born a rest f l h⟩
  ·simp at h
def sX(ok:Bool)(z:PV):Option PV->PV
 |some v=>if ok then .aE [v,.bool true]else v
 |none=>if ok then .aE [z,.bool false]else z
theorem Tt{T:c8}{c E:c8}{x i:c7}{ok:Bool}{key z:PV}{r:Option PV}{k:List (PV×PV)}(C:o.op= .lookup T x i ok)(g:jk P T=some (c,E))(F:cG P E=some z)(hk:eO P c key=true)(hl:fT P c k key=some r)
 {ρc:c7->da}(B:aA P w aa key (ρc i))(hx:(ρc x=.map none/\k=[])\/∃b a d,ρc x=.map (some b)/\w.heap[b]?=some (.map a d)/\cz P w aa k a.toList):
 ∃p,(db ρc o).run P w=.ok (.value p) w/\aA P w aa (sX ok z r) p:=by
 have m:P.underlying T=some (.map c E):=by
  unfold jk at g
  split at g
  ·rename_i D;simp at g;rw[D,g.1,g.2]
  ·simp at g
 obtain⟨u,t,z2⟩:=KF F;obtain⟨a,s,n⟩:∃a:Array dl,((ρc x=.map none/\a=#[])\/∃b d,ρc x=.map (some b)/\w.heap[b]?=some (.map a d))/\cz P w aa k a.toList:=by
  rcases hx with⟨hx,rfl⟩|⟨b,a,d,hx,h,n⟩
  ·exact⟨#[],.inl ⟨hx,rfl⟩,by simp[cz]⟩
  ·exact⟨a,.inr ⟨b,d,hx,h⟩,n⟩
 obtain⟨l,y⟩:=Kk hk B n hl
 have q:∀(f:Option (Nat×da))(v:da)(b:Bool),(g0 c (ρc i) a.toList).run P w= .ok f w->(f=none/\v=u/\b=false\/∃j,f=some (j,v)/\b=true)->
  (db ρc o).run P w=.ok (.value (if ok then .tuple #[v,.bool b]else v)) w:=by
  intro f v b hf A;simp only[db,C];refine ek ?_;rcases A with⟨rfl,rfl,rfl⟩|⟨j,rfl,rfl⟩
  ·rcases s with⟨hx,rfl⟩|⟨b,d,hx,h⟩
   ·have hf:(g0 c (ρc i) []).run P w=.ok none w:=hf;cases ok<;>simp[g9,c6 m,hx,l,hf,t]
   ·cases ok<;>simp[g9,c6 m,hx,he h,l,hf,t]
  ·rcases s with⟨hx,rfl⟩|⟨b,d,hx,h⟩
   ·have hf:(g0 c (ρc i) []).run P w=.ok (some (j,v)) w:=hf;cases ok<;>simp[g9,c6 m,hx,l,hf]
   ·cases ok<;>simp[g9,c6 m,hx,he h,l,hf]
 rcases y with⟨rfl,f1⟩|⟨v,j,e,rfl,f1,f3⟩
 ·refine⟨_,q none u false f1 (.inl ⟨rfl,rfl,rfl⟩),?_⟩;cases ok with
  |true=>simp only[sX,if_true,aA,bf];exact⟨_,⟨_,_,rfl,z2 w aa,_,_,rfl,rfl,rfl⟩,rfl⟩
  |false=>simpa[sX]using z2 w aa
 ·refine⟨_,q _ e.val true f1 (.inr ⟨_,rfl,rfl⟩),?_⟩;cases ok with
  |true=>simp only[sX,if_true,aA,bf];exact⟨_,⟨_,_,rfl,f3,_,_,rfl,rfl,rfl⟩,rfl⟩
  |false=>simpa[sX]using f3
theorem uq{T:c8}{c E:c8}{x g:c7}{ok:Bool}{key z:PV}{r:Option PV}{es:List (PV×PV)}{aj:List (Nat×Obj)}(f:o.op= .lookup T x g ok)(n:jk P T=some (c,E))(t:cG P E=some z)(hi:ρ g= .p key)(hk:eO P c key=true)(hl:fT P c es key=some r)
 (hx:(ρ x=.p .fx/\es=[])\/ρ x=.p (.eS es)\/∃b fz,ρ x=.map b/\(b,.map fz es)∈aj):
 bm P o ρ base {v:=.p (sX ok z r),aj}:=by
 refine bm.same fun H w aa ag β u s i aj=>?_;have a:=(i x (by simp[f,hh])).1;have e:=(i g (by simp[f,hh])).1;rw[hi]at e;simp only[ar]at e;obtain⟨j,c1,c2⟩:=Tt f n t hk hl (ρc:=u) (w:=w) (aa:=aa) e (by
  rcases hx with⟨hx,rfl⟩|hx|⟨b,fz,hx,q⟩
  ·rw[hx]at a;simp only[ar,aA]at a;exact .inl ⟨a,rfl⟩
  ·rw[hx]at a;simp only[ar,aA]at a;obtain⟨b,d,clock,_,k,l,m⟩:=a;exact .inr ⟨b,d,clock,m,k,l⟩
  ·rw[hx]at a;simp only[ar,bH,bP]at a;have h:=aj _ q;obtain⟨d,clock,k1,k2,_⟩:=s.cJ b _ h;exact .inr ⟨_,d,clock,a.2.1 ⟨_,h,trivial⟩,k1,k2⟩)
 exact⟨j,c1,by simpa only[ar]using c2,by simp[aB]⟩
theorem Tk{T:c8}(e:o.op=.makeMap T none):bm P o ρ base {v:=.map base,aS:=[.map false []]}:=by
 intro H w aa ag β i b j _ d;have a:H[base]?=some .hole:=by simpa using d 0 s_
 have g:(db i o).run P w=.ok (.value (.map (some w.heap.size))) {w with heap:=w.heap.push (.map #[] 0)}:=by
  simp only[db,e];exact uc (by simp[Instr.makeMap])
 have f:=sn (cap:=0) b a (ob:=.map #[] 0) (o':=.map false [])
  ⟨#[],0,by simp[Bd.at],by simp[cz],by
   simp only[cw,Bd.at,if_true,cR,if_false];exact⟨fun h=>kt _ (b.bR _ h),fun h=>kt _ (b.eE _ h)⟩⟩ trivial
 refine⟨_,_,_,_,aa,g,.inl rfl,f,?_,?_⟩
 ·simp only[ar,bH,bP,lr];exact⟨rfl,fun _=>by simp[Bd.at],fun⟨L,c⟩=>by rw[hS (hR.1 a).1]at c;cases c⟩
 ·simp only[aB,lr];exact⟨_,hS (hR.1 a).1,trivial⟩
theorem Cj(f:bX P w aa β H ag){b:Nat}{o o':Obj}(a:H[b]?=some o)(hl:o.live)(i:o'.live)(m:∀v,o.has v->o'.has v)(j:∀L,o≠ .loop L){ob:Go.Obj}
 (_hb:β.ak b<w.heap.size)(e:¬aa (β.ak b)/\¬ag (β.ak b))(aJ:cg β H β (H.set b o'))
 (n:ft P {w with heap:=w.heap.setIfInBounds (β.ak b) ob} aa β (H.set b o') ag b o')(p:o'.refs (aH (H.set b o'))):
 bV P ag aa w β H aa {w with heap:=w.heap.setIfInBounds (β.ak b) ob} β (H.set b o'):=by
 refine bV.set f (hR.1 a).1 (fun _ _=>⟨rfl,rfl⟩) (fun _ x=>x) (fun _ x=>.inl x) (fun k hk=>by simpa using f.bR k hk) s_
  (fun k hk _=>?_) (fun _=>.inr ⟨rfl,⟨o,a,hl⟩,.inr e.1,e.2⟩) aJ n p (fun q v c g=>by rw[a]at c;cases c;exact m v g) (fun L d=>by rw[a]at d;cases d;exact(j L rfl).elim)
 have l:k≠β.ak b:=hk.resolve_right (fun h=>h i);simp[ln l]
theorem GL{T s E:c8}{m k x:c7}{b:Nat}{key v:PV}{a:List (PV×PV)}{r:Option PV}(f:o.op= .mapUpdate T m k x\/o.op= .insert T m k x)(y:jk P T=some (s,E))(ab:ρ m= .map b)(hk:ρ k= .p key)(hx:ρ x= .p v)
 (hf:eO P s key=true)(hl:lM P s a key=some r):bm P o ρ base {v:=.p (.aE []),aj:=[(b,.map false a)],aG:=[(b,.map false (gA a key v))]}:=by
 have M:P.underlying T=some (.map s E):=by
  unfold jk at y
  split at y
  ·rename_i N;simp at y;rw[N,y.1,y.2]
  ·simp at y
 intro H w aa ag β c S O aj _;have F:H[b]?=some (.map false a):=by simpa using aj
 have L:m∈o.op.operands/\k∈o.op.operands/\x∈o.op.operands:=by
  rcases f with f|f<;>simp[f,hh]
 have i:=(O m L.1).1;have l:=(O k L.2.1).1;have A:=(O x L.2.2).1;rw[ab]at i;rw[hk]at l;rw[hx]at A;simp only[ar,bH,bP]at i l A;have i:=i.2.1 ⟨_,F,trivial⟩;obtain⟨g,clock,k1,k2,k3⟩:=S.cJ b _ F;have R:¬aa (β.ak b)/\¬ag (β.ak b):=by
  unfold cw at k3;rw[if_neg s_]at k3;exact k3
 have D:fT P s a key=some r:=by
  by_cases q:kf key
  ·rw[<-R4 q];exact hl
  ·obtain⟨u,fs,cA,rfl,_⟩:=AW hf q;simp only[lM]at hl
   split at hl
   ·rename_i hq;rw[hq];exact hl
   ·cases hl
 have J:=(Kk hf l k2 D).1 false;have Q:β.ak b<w.heap.size:=(b2.1 k1).1;have aJ:cg β H β (H.set b (.map false (gA a key v))):=oH F (.inr (.inr (.inl ⟨_,_,_,_,rfl,rfl⟩)))
 have I:∀(t:Array dl)(z:Nat),(g7 T (c m) (c k) (c x)).run P w= .ok () {w with heap:=w.heap.setIfInBounds (β.ak b) (.map t z)}->cz P w aa (gA a key v) t.toList->
  ∃n G w' aI aD,(db c o).run P w=.ok n w'/\(n=.value G\/n=.skip/\G=undef)/\
  bV P ag aa w β H aD w' aI (aX H ([(b,.map false (gA a key v))]++newAt base []))/\ar P w' aD aI (aX H ([(b,.map false (gA a key v))]++newAt base [])) (.p (.aE [])) G/\
  aB (aH (aX H ([(b,.map false (gA a key v))]++newAt base []))) (.p (.aE [])):=by
  intro t z ae ac;have W:(db c o).run P w=.ok .skip {w with heap:=w.heap.setIfInBounds (β.ak b) (.map t z)}:=by
   rcases f with f|f<;>simp[db,f,ae]
  have af:∀C,aa C->({w with heap:=w.heap.setIfInBounds (β.ak b) (.map t z)}:dk).heap[C]?=w.heap[C]?:=by
   intro C Z;have:β.ak b≠C:=fun V=>R.1 (V▸Z);simp[this]
  refine⟨_,_,_,β,aa,W,.inr ⟨rfl,rfl⟩,?_,by simp[ar,aA,bf,undef],by simp[aB]⟩;simp only[newAt,hW,aX];exact Cj (o':=.map false (gA a key v)) S F trivial trivial (fun _ h=>h) (fun _ h=>by cases h) Q R aJ ⟨t,z,by simp[Q],cz.mono (fun _ x=>x) af _ _ ac,k3⟩ trivial
 by_cases q:kf key
 case neg=>
  obtain⟨u,fs,cA,rfl,N,_,_⟩:=AW hf q;have ad:r=none:=by
   simp only[lM]at hl
   split at hl
   ·simpa using hl.symm
   ·cases hl
  subst ad;rcases Bo l a g.toList 0 none k2 D with⟨_,f1,f2⟩|⟨v',j,e,U,_⟩
  ·have B:=BP N f1;refine I (g.push {key:=c k,val:=c x,born:=clock}) (clock+1) ?_ ?_
   ·rw[i];simp only[g7,hE,c6 M,hC,he k1,J,B,run_setObj_map _ k1]
   ·rw[ce];exact f2 v (c x) clock A
  ·cases U
 obtain⟨d,K,X⟩:=xk hf q l;rcases BO K hf q l a g.toList 0 r k2 D with⟨rfl,f1⟩|⟨v',j,e,rfl,f1,f2,f3,f4,f5⟩
 ·have B:=run_findKey (w:=w) K f1;refine I (g.push {key:=c k,val:=c x,born:=clock}) (clock+1) ?_ ?_
  ·rw[i];simp only[g7,hE,c6 M,hC,he k1,J,B,run_setObj_map _ k1]
  ·rw[ce];exact Hc (T:=s) l A clock a g.toList q k2 D
 ·have B:=run_findKey (w:=w) K f1;have Y:g[j]?=some e:=by simpa using f2
  refine I (g.modify j fun e=>{e with key:=c k,val:=c x}) clock ?_ ?_
  ·rw[i];simp only[g7,hE,c6 M,hC,he k1,J,B];simp only[kz,Y,lu,lt,f4,run_keyThatStays X,hC,run_setObj_map _ k1]
  ·rw[Array.toList_modify];exact f5 v (c x) A
theorem wy{v:PV}:kS v=true->kf v:=by
 cases v<;>simp[kS,kf]
theorem QF{b:Nat}{o o':Obj}(e:H[b]?=some o)(i:o.tS)(d:o'.tS):cg β H β (H.set b o'):=by
 have g:b<H.length:=(hR.1 e).1;have a:∀x,x≠b->(H.set b o')[x]?=H[x]?:=fun x hx=>h3 (ln hx);have c:(H.set b o')[b]?=some o':=hS g;refine⟨?_,?_,?_,?_,?_⟩
 ·rintro x _ ⟨fz,t,h⟩;refine⟨?_,rfl⟩
  by_cases hx:x=b
  ·subst hx;rw[c]at h;cases h;exact d.elim
  ·rw[a x hx]at h;exact⟨fz,t,h⟩
 ·rintro x _ ⟨fz,t,h⟩;refine⟨?_,rfl⟩
  by_cases hx:x=b
  ·subst hx;rw[c]at h;cases h;exact d.elim
  ·rw[a x hx]at h;exact⟨fz,t,h⟩
 ·rintro x _ ⟨l,h,j⟩;refine⟨?_,rfl⟩
  by_cases hx:x=b
  ·subst hx;exact⟨o,e,i⟩
  ·rw[a x hx]at h;exact⟨l,h,j⟩
 ·intro x an ai k f _ h
  by_cases hx:x=b
  ·subst hx;unfold dT at h;rw[c]at h;cases h;exact d.elim
  ·unfold dT at h⊢;rw[a x hx]at h;exact⟨k,f,h,kp _,Iff.rfl,fun _=>⟨rfl,rfl⟩⟩
 ·rintro x _ ⟨L,h⟩;refine⟨?_,rfl⟩
  by_cases hx:x=b
  ·subst hx;rw[c]at h;cases h;exact d.elim
  ·rw[a x hx]at h;exact⟨L,h⟩
theorem E5:∀{b:List (PV×PV)}{a:List dl},cz P w aa b a->bf P w aa (b.map (·.1)) (a.map (·.key))/\bh P w aa β H (b.map fun e=>.p e.2) (a.map (·.val))
 |[],a,h=>by
  simp only[cz]at h;subst h;simp[bf,bh]
 |(k,v)::r,a,h=>by
  simp only[cz]at h;obtain⟨e,rest,rfl,c,d,f⟩:=h;obtain⟨i1,i2⟩:=E5 f;simp only[hV,bf,bh];exact⟨⟨_,_,rfl,c,i1⟩,⟨_,_,rfl,by simpa only[ar]using d,i2⟩⟩
theorem QI{b:Nat}{d:Obj}{ks:List PV}{vs:List AV}(h:bX P w aa β H ag)(g:H[b]?=some d)(a:oi d=some (ks,vs)):
 d.tS/\(∃c f,w.heap[β.ak b]?=some (.map c f)/\bf P w aa ks (c.toList.map (·.key))/\bh P w aa β H vs (c.toList.map (·.val))/\cw aa β ag false b)/\aR (aH H) vs:=by
 cases d<;>simp only[oi]at a<;>try (cases a;done)
 case map fz es=>
  cases fz
  case true=>simp at a
  simp only[lv,l0]at a;obtain⟨rfl,rfl⟩:=a;obtain⟨c,f,k1,k2,k3⟩:=h.cJ b _ g;obtain⟨i1,i2⟩:=E5 (β:=β) (H:=H) k2;exact⟨trivial,⟨c,f,k1,i1,i2,k3⟩,cH.2 fun v i=>by obtain⟨e,_,rfl⟩:=km.1 i;trivial⟩
 case cT j k=>
  simp only[lv,l0]at a;obtain⟨rfl,rfl⟩:=a;exact⟨trivial,h.cJ b _ g,h.refs b _ g⟩
theorem zZ{T:c8}{d:et}(n:P.underlying T=some d){key:PV}{o:da}(hk:eO P T key=true)(g:kf key)(m:aA P w aa key o):∀(ks:List PV)(vs:List AV)(c:List dl)(i:Nat)(r:Option AV),bf P w aa ks (c.map (·.key))->bh P w aa β H vs (c.map (·.val))->jw P T ks vs key=some r->
 (r=none/\gl d o c i=some none)\/∃(v:AV)(j:Nat)(e:dl),r=some v/\gl d o c i=some (some (i+j,e.val))/\ar P w aa β H v e.val/\v∈vs
 |[],vs,c,i,r,f,k,h=>by
  cases c with
  |nil=>
   cases vs with
   |nil=>simp[jw]at h;subst h;exact .inl ⟨rfl,rfl⟩
   |cons a b=>simp[jw]at h
  |cons a b=>simp[bf]at f
 |u::ks,vs,c,i,r,f,k,h=>by
  cases c with
  |nil=>simp[bf]at f
  |cons e rest=>
   cases vs with
   |nil=>simp[bh]at k
   |cons v' vs=>
    simp only[hV,bf,bh,List.cons.injEq]at f k;obtain⟨_,_,⟨rfl,rfl⟩,p,q⟩:=f;obtain⟨_,_,⟨rfl,rfl⟩,s,t⟩:=k;simp only[jw,Ct g]at h
    split at h
    ·rename_i l;simp at h;subst h;obtain⟨g1,g2⟩:=yM n hk g l m p;exact .inr ⟨v',0,e,rfl,by simp[gl,g1],s,List.mem_cons_self⟩
    ·rename_i l;obtain⟨g1,g2⟩:=yM n hk g l m p;rcases zZ n hk g m ks vs rest (i+1) r q t h with⟨rfl,f1⟩|⟨v,j,e',rfl,f1,f3,f4⟩
     ·exact .inl ⟨rfl,by simp[gl,g1,f1]⟩
     ·exact .inr ⟨v,j+1,e',rfl,by simp[gl,g1,f1];omega,f3,h2 _ f4⟩
    ·simp at h
def mS(ok:Bool)(z:PV):Option AV->AV
 |some v=>if ok then .aE [v,.p (.bool true)]else v
 |none=>.p (if ok then .aE [z,.bool false]else z)
theorem EZ{T:c8}{f E:c8}{x k:c7}{ok:Bool}{key z:PV}{r:Option AV}{b:Nat}{ks:List PV}{vs:List AV}(i:o.op= .lookup T x k ok)(c:jk P T=some (f,E))(C:cG P E=some z)(hi:ρ k= .p key)(hk:eO P f key=true)(n:kS key=true)(hl:jw P f ks vs key=some r)
 (hx:ρ x=.map b):bm P o ρ base {v:=mS ok z r,aj:=[(b,.cT ks vs)]}:=by
 refine bm.same fun H w aa ag β F s t aj=>?_;have a:=(t x (by simp[i,hh])).1;have g:=(t k (by simp[i,hh])).1;rw[hi]at g;simp only[ar]at g;rw[hx]at a;simp only[ar,bH,bP]at a;have l:H[b]?=some (.cT ks vs):=by simpa using aj
 obtain⟨y,clock,k1,k2,k3,_⟩:=s.cJ b _ l;have hrefs:aR (aH H) vs:=s.refs b _ l;have a:=a.2.1 ⟨_,l,trivial⟩;have q:P.underlying T=some (.map f E):=by
  unfold jk at c
  split at c
  ·rename_i B;simp at c;rw[B,c.1,c.2]
  ·simp at c
 obtain⟨u,D,z2⟩:=KF C;obtain⟨d,h,A⟩:=xk hk (wy n) g;have m:∀e,(gx e 10000 f (F k)).run P w=.ok () w:=fun e=>run_checkKey h A _ 9999;rcases zZ h hk (wy n) g ks vs y.toList 0 r k2 k3 hl with⟨rfl,f1⟩|⟨v,j,e,rfl,f1,f3,f4⟩
 ·have hf:=run_findKey (w:=w) h f1;refine⟨if ok then .tuple #[u,.bool false]else u,?_,?_,by cases ok<;>simp[mS,aB]⟩
  ·simp only[db,i];refine ek ?_;cases ok<;>simp[g9,c6 q,a,he k1,m,hf,D]
  ·cases ok with
   |true=>simp only[mS,if_true,ar,aA,bf];exact⟨_,⟨_,_,rfl,z2 w aa,_,_,rfl,rfl,rfl⟩,rfl⟩
   |false=>simpa[mS,ar]using z2 w aa
 ·have hf:=run_findKey (w:=w) h f1;refine⟨if ok then .tuple #[e.val,.bool true]else e.val,?_,?_,?_⟩
  ·simp only[db,i];refine ek ?_;cases ok<;>simp[g9,c6 q,a,he k1,m,hf]
  ·cases ok with
   |true=>simp only[mS,if_true,ar,bh,aA];exact⟨_,⟨_,_,rfl,f3,_,_,rfl,rfl,rfl⟩,rfl⟩
   |false=>simpa[mS]using f3
  ·have:=cH.1 hrefs v f4;cases ok<;>simp[mS,aB,aR,this]
theorem E4{w:dk}{aa:Nat->Prop}{k:PV}{x:da}:∀{a:List PV}{l:List da},bf P w aa a l->aA P w aa k x->bf P w aa (a++[k]) (l++[x])
 |[],l,h,hx=>by simp only[bf]at h;subst h;simp only[i7,bf];exact⟨_,_,rfl,hx,rfl⟩
 |v::a,l,h,hx=>by
  simp only[bf]at h;obtain⟨y,d,rfl,b,c⟩:=h;simp only[List.cons_append,bf];exact⟨_,_,rfl,b,E4 c hx⟩
theorem wv{T i E:c8}{m k x:c7}{b:Nat}{key:PV}{u:Obj}{ks:List PV}{vs:List AV}(c:o.op= .mapUpdate T m k x\/o.op= .insert T m k x)(g:jk P T=some (i,E))(Z:ρ m= .map b)(hk:ρ k= .p key)
 (hf:eO P i key=true)(O:oi u=some (ks,vs))(F:kS key=true)(hl:jw P i ks vs key=some none):bm P o ρ base {v:=.p (.aE []),aj:=[(b,u)],aG:=[(b,.cT (ks++[key]) (vs++[ρ x]))]}:=by
 have ab:P.underlying T=some (.map i E):=by
  unfold jk at g
  split at g
  ·rename_i ad;simp at g;rw[ad,g.1,g.2]
  ·simp at g
 intro H w aa ag β a G B aj _;have s:H[b]?=some u:=by simpa using aj
 have A:m∈o.op.operands/\k∈o.op.operands/\x∈o.op.operands:=by
  rcases c with c|c<;>simp[c,hh]
 have n:=(B m A.1).1;have q:=(B k A.2.1).1;obtain⟨M,N⟩:=B x A.2.2;rw[Z]at n;rw[hk]at q;simp only[ar,bH,bP]at n q;obtain⟨r,⟨l,clock,k1,k2,k3,k4⟩,ae⟩:=QI G s O;have n:=n.2.1 ⟨_,s,r⟩;have D:¬aa (β.ak b)/\¬ag (β.ak b):=by
  unfold cw at k4;rw[if_neg s_]at k4;exact k4
 obtain⟨d,z,W⟩:=xk hf (wy F) q;have R:(gx false 10000 i (a k)).run P w=.ok () w:=run_checkKey z W _ 9999;have C:β.ak b<w.heap.size:=(b2.1 k1).1;have Q:b<H.length:=(hR.1 s).1;have aJ:cg β H β (H.set b (.cT (ks++[key]) (vs++[ρ x]))):=QF s r trivial;rcases zZ z hf (wy F) q ks vs l.toList 0 none k2 k3 hl with⟨_,f1⟩|⟨v',j,e,L,_⟩
 case inr=>cases L
 have V:=run_findKey (w:=w) z f1;have ac:(g7 T (a m) (a k) (a x)).run P w=.ok () {w with heap:=w.heap.setIfInBounds (β.ak b) (.map (l.push {key:=a k,val:=a x,born:=clock}) (clock+1))}:=by
  rw[n];simp only[g7,hE,c6 ab,hC,he k1,R,V,run_setObj_map _ k1]
 have U:(db a o).run P w=.ok .skip {w with heap:=w.heap.setIfInBounds (β.ak b) (.map (l.push {key:=a k,val:=a x,born:=clock}) (clock+1))}:=by
  rcases c with c|c<;>simp[db,c,ac]
 have I:∀t,aa t->({w with heap:=w.heap.setIfInBounds (β.ak b) (.map (l.push {key:=a k,val:=a x,born:=clock}) (clock+1))}:dk).heap[t]?=w.heap[t]?:=by
  intro t Y;have:β.ak b≠t:=fun S=>D.1 (S▸Y);simp[this]
 have X:∀y,aH H y->aH (H.set b (.cT (ks++[key]) (vs++[ρ x]))) y:=by
  rintro⟨y,v⟩ ⟨ah,af,f⟩
  by_cases K:b=y
  ·subst K;exact⟨.cT (ks++[key]) (vs++[ρ x]),by simp only;rw[hS Q],trivial⟩
  ·exact⟨ah,by simp only;rw[h3 K];exact af,f⟩
 have J:aR (aH H) (vs++[ρ x]):=cH.2 fun v f=>by
  rcases i8.1 f with f|f
  ·exact cH.1 ae v f
  ·rw[ix.1 f];exact N
 refine⟨_,_,_,β,aa,U,.inr ⟨rfl,rfl⟩,?_,by simp[ar,aA,bf,undef],by simp[aB]⟩;simp only[newAt,hW,aX];refine Cj (o':=.cT (ks++[key]) (vs++[ρ x])) G s (by cases u<;>first|trivial|exact r.elim) trivial (fun _ _=>trivial) (fun _ h=>by rw[h]at r;exact r.elim) C D aJ ⟨l.push {key:=a k,val:=a x,born:=clock},clock+1,by simp[C],?_,?_,k4⟩ (aR.mono X _ J)
 ·rw[ce,h5];exact bf.mono (fun _ x=>x) I _ _ (E4 k2 q)
 ·rw[ce,h5];refine bh.mono (fun _ x=>x) I aJ _ _ J (ow k3 ?_);simp only[hV,h7,bh];exact⟨_,_,rfl,M,rfl⟩
theorem wx{c:c8}{b:Nat}{key:PV}{x:AV}{a:Obj}{K:aU->Prop}(h:mf P c b key x a K):∃ks vs,oi a=some (ks,vs)/\kS key=true/\jw P c ks vs key=some none/\K {v:=.p (.aE []),aj:=[(b,a)],aG:=[(b,.cT (ks++[key]) (vs++[x]))]}:=by
 unfold mf at h
 split at h
 ·rename_i ks vs d;exact⟨ks,vs,d,h⟩
 ·exact h.elim
end
section
variable{P:c9}{w:dk}{aa ag:Nat->Prop}{β:Bd}{H:Heap}
variable{o:Oper}{ρ:c7->AV}{base:Nat}
theorem Sm(bs:ByteArray):gu (iS bs)=bs:=by
 unfold gu iS;apply ByteArray.ext;apply b4;simp only[i6];have:(l3∘fun x:UInt8=>x.toNat)=id:=by funext x;simp
 rw[this];simp
theorem VD{T:c8}{x:c7}{s:List Nat}(d:o.op=.range T x)(hx:ρ x=.p (.str s))(e:iu P T=true):bm P o ρ base {v:=.ptr base [],aS:=[.dx s 0]}:=by
 intro H w aa ag β k b j _ f;have c:H[base]?=some .hole:=by simpa using f 0 s_
 have a:=(j x (by simp[d,hh])).1;rw[hx]at a;simp only[ar,aA]at a;obtain⟨bs,e1,e2⟩:=a;have i:(db k o).run P w=.ok (.value (.pointer (some ⟨w.heap.size,0,none⟩))) {w with heap:=w.heap.push (.stringIter bs 0)}:=by
  simp only[db,d,e1];exact uc (by simp[Instr.range,c6 (xa e)])
 have g:=sn (cap:=0) b c (ob:=.stringIter bs 0) (o':=.dx s 0)
  ⟨bs,by simp[Bd.at],e2,by
   simp only[cw,Bd.at,if_true,cR,if_false];exact⟨fun h=>kt _ (b.bR _ h),fun h=>kt _ (b.eE _ h)⟩⟩ trivial
 refine⟨_,_,_,_,aa,i,.inl rfl,g,?_,?_⟩
 ·simp only[ar,bH,bP,lr];exact⟨rfl,_,_,0,rfl,rfl,fun _=>by simp[Bd.at]⟩
 ·simp only[aB,lr];exact⟨_,hS (hR.1 c).1,trivial⟩
theorem aAu{it:c7}{b:Nat}{s:List Nat}{pos:Nat}(g:o.op= .next it true)(hx:ρ it= .ptr b []):
 (pos<s.length->bm P o ρ base {v:=.p (.aE [.bool true,.int .i64 pos,.int .i32 (hM (gu s) pos).1]),aj:=[(b,.dx s pos)],aG:=[(b,.dx s (pos+(hM (gu s) pos).2))]})/\
 (¬pos<s.length->bm P o ρ base {v:=.p (.aE [.bool false]),aj:=[(b,.dx s pos)]}):=by
 have key:∀{H:Heap}{w:dk}{aa ag:Nat->Prop}{β:Bd}{e:c7->da},bX P w aa β H ag->(∀x∈o.op.operands,ar P w aa β H (ρ x) (e x)/\aB (aH H) (ρ x))->H[b]?=some (.dx s pos)->
  e it=.pointer (some ⟨β.ak b,0,none⟩)/\∃bs:ByteArray,w.heap[β.ak b]?=some (.stringIter bs pos)/\s=iS bs/\(¬aa (β.ak b)/\¬ag (β.ak b)):=by
  intro H w aa ag β e d f a;have c:=(f it (by simp[g,hh])).1;rw[hx]at c;simp only[ar,bH,bP]at c;obtain⟨_,ak,off,t,m,k,n⟩:=c;simp[gd]at k;subst k;obtain⟨rfl,rfl⟩:=n (.inr ⟨_,_,a⟩);obtain⟨bs,k1,k2,k3⟩:=d.cJ b _ a;unfold cw at k3;rw[if_neg s_]at k3;exact⟨m,bs,k1,k2,k3⟩
 constructor
 ·intro i H w aa ag β e d f aj _;have a:H[b]?=some (.dx s pos):=by simpa using aj
  obtain⟨c,bs,k1,rfl,k3⟩:=key d f a;have j:pos<bs.size:=by simpa[iS]using i
  have l:β.ak b<w.heap.size:=(b2.1 k1).1;rw[Sm];have r:(db e o).run P w=.ok (.value (.tuple #[.bool true,goInt pos,.int .i32 (hM bs pos).1])) {w with heap:=w.heap.setIfInBounds (β.ak b) (.stringIter bs (pos+(hM bs pos).2))}:=by
   simp only[db,g,c];refine uc ?_;simp[hd,getObj,setObj,hG,k1,hD,j]
  have aJ:cg β H β (H.set b (.dx (iS bs) (pos+(hM bs pos).2))):=oH a (.inr (.inr (.inr ⟨_,_,_,rfl,rfl⟩)));have q:=Cj (o':=.dx (iS bs) (pos+(hM bs pos).2)) (ob:=.stringIter bs (pos+(hM bs pos).2)) d a trivial trivial (fun _ h=>h) (fun _ h=>by cases h) l k3 aJ
   ⟨bs,by simp[l],rfl,by unfold cw;rw[if_neg s_];exact k3⟩ trivial
  refine⟨_,_,_,β,aa,r,.inl rfl,?_,?_,by simp[aB]⟩
  ·simpa only[newAt,hW,aX]using q
  ·simp only[ar,aA,bf];exact⟨_,⟨_,_,rfl,rfl,_,_,rfl,rfl,_,_,rfl,rfl,rfl⟩,rfl⟩
 ·intro i;refine bm.same fun H w aa ag β e d f aj=>?_;have a:H[b]?=some (.dx s pos):=by simpa using aj
  obtain⟨c,bs,k1,rfl,k3⟩:=key d f a;have j:¬pos<bs.size:=by simpa[iS]using i
  refine⟨.tuple #[.bool false],?_,by simp only[ar,aA,bf];exact⟨_,⟨_,_,rfl,rfl,rfl⟩,rfl⟩,by simp[aB]⟩;simp only[db,g,c];refine ek ?_;simp[hd,getObj,hG,k1,hD,j]
theorem VE{T u:c8}{x:c7}{f:Nat}{fs:Array ei}{t g:PV}{F:c8}(h:o.op= .field T x f)(hk:kindOf P T= .agg u)(b:P.underlying T=some (.struct fs))(hx:ρ x= .p t)(hs:aL t= .agg u)(e:(cA t)[f]?=some g)(q:(jy P u)[f]?=some F)(r:kindOf P F=aL g):
 bm P o ρ base {v:=.p g}:=by
 refine bm.same fun H w aa ag β K E z _=>?_;have a:=(z x (by simp[h,hh])).1;rw[hx]at a;simp only[ar]at a;cases t<;>simp[aL]at hs;rename_i u' m;subst hs;simp only[cA]at e;simp only[aA]at a;obtain⟨l,d,k1,k2,k3⟩:=a;obtain⟨D,G,s1,s2,I,j,J,A⟩:=ue (P:=P) (T:=T) (u:=u') (n:=fs.size) (by unfold fN;rw[hk,b]);rw[b]at s1;cases s1;rw[k1]at j;cases j;have s:bG P w aa ⟨id,id⟩ [] l (m.map .p) d:=nr.2 k2;obtain⟨pre,c,post,e1,e2,e3,e4,e5,_⟩:=sC (f:=.p g) (i:=f) s (by simp[e]);simp only[bg]at e5;obtain⟨C,g1,g2,g3,g4,g5⟩:=A f o_;rw[q]at g5;cases g5;obtain⟨y,k,B⟩:=qp r e5 (pre:=pre) (post:=post) (cs:=d.flatten.toArray) (by simpa using e1);refine⟨y,?_,by simpa only[ar]using B,by simp[aB]⟩;simp only[db,h,k3];refine ek ?_;rw[e2,<-g2]at k;simp only[Instr.field,hE,c6 b,hC,g1];simp[asAgg,k]
theorem S0{T u:c8}{n:Nat}{x k:c7}{O:eb}{i:Int}{a:List PV}{g:PV}{F:c8}(j:o.op= .index T x k)(A:gU P T=some (u,n))(hx:ρ x= .p (.st u a))(hi:ρ k= .p (.int O i))
 (z:0<=i)(J:i.toNat<n)(h:(jy P u)[i.toNat]?=some F)(E:a[i.toNat]?=some g)(G:kindOf P F=aL g):bm P o ρ base {v:=.p g}:=by
 refine bm.same fun H w aa ag β S R s _=>?_;have b:=(s x (by simp[j,hh])).1;have d:=(s k (by simp[j,hh])).1;rw[hx]at b;rw[hi]at d;simp only[ar,aA]at b d;obtain⟨l,m,k1,k2,k3⟩:=b;obtain⟨e,r,hk,hl,K⟩:=sx A;rw[k1]at hl;cases hl;have B:F=e:=by
  obtain⟨D,_,_⟩:=AU hk;have C:(P.info? u).map (fun i:ec=>i.desc)=some (.array n e):=by rw[D,<-Ay,r]
  unfold jy at h;rw[C]at h;have q:(hU n e)[i.toNat]?=some F:=h;rw[List.getElem?_replicate,if_pos J]at q;exact(lw q).symm
 subst B;have L:bG P w aa ⟨id,id⟩ [] (hU n (P.cellsOf F)) (a.map .p) m:=nr.2 k2;obtain⟨pre,c,post,e1,e2,e3,e4,e5,_⟩:=sC (f:=.p g) (i:=i.toNat) L (by simp[E]);simp only[bg]at e5;obtain⟨y,t,Q⟩:=qp G e5 (pre:=pre) (post:=post) (cs:=m.flatten.toArray) (by simpa using e1);have M:((hU n (P.cellsOf F)).take i.toNat).sum=i.toNat*P.cellsOf F:=by rw[List.take_replicate,Nat.min_eq_left o_,List.sum_replicate_nat]
 have N:(sizeOf F).run P w=.ok (P.cellsOf F) w:=by
  cases hi:P.info? F with
  |none=>simp[Program.cellsOf,hi]at K
  |some i=>simp[sizeOf,typeInfo,hi,Program.cellsOf]
 refine⟨y,?_,by simpa only[ar]using Q,by simp[aB]⟩;simp only[db,j,k3,d];refine ek ?_;have I:i<(n:Int):=o_
 rw[e2,M]at t;simp only[Instr.index,asIntOf,hE,hF,c6 r,hC];simp[z,I,N,t]
theorem GV{k:eb}{f:Bool}{ρc:c7->da}:∀(l:List c7)(a n:Int),lF k f (l.map ρ) a=some n->(∀x∈l,ar P w aa β H (ρ x) (ρc x))->
 ((l.map ρc).foldlM (if f then fZ else fv) (.int k a)).run P w=.ok (.int k n) w
 |[],a,n,h,_=>by simp[lF]at h;subst h;simp
 |x::l,a,n,h,g=>by
  simp only[hV]at h;unfold lF at h
  split at h
  ·rename_i e;cases e
  ·rename_i j b r a' e;simp at e;obtain⟨e1,rfl⟩:=e
   split at h
   case isFalse=>simp at h
   rename_i hk;subst hk;have d:=g x s_;rw[e1]at d;simp only[ar,aA]at d;have c:=GV l _ n h (fun y i=>g y (by simp[i]));simp only[hV,List.foldlM_cons,hE,d];cases f with
   |true=>simp only[if_true,fZ,hF,hC]at c⊢;exact c
   |false=>simp only[cR,if_false,fv,hF,hC]at c⊢;exact c
  ·simp at h
theorem Is{c:Call}{isMax:Bool}{k:eb}{a n:Int}{r:List AV}(j:o.op= .call c)(hc:c.callee= .builtin (if isMax then .max else .min))(b:c.args.toList.map ρ= .p (.int k a)::r)(h:lF k isMax r a=some n):
 bm P o ρ base {v:=.p (.int k n)}:=by
 obtain⟨x,l,hl⟩:∃x l,c.args.toList=x::l:=by
  cases q:c.args.toList with
  |nil=>rw[q]at b;simp at b
  |cons x l=>exact⟨x,l,rfl⟩
 rw[hl]at b;simp at b;obtain⟨hx,rfl⟩:=b;have g:c.args=(x::l).toArray:=by apply b4;simpa using hl
 have i:∀y∈x::l,y∈o.op.operands:=by
  intro y f;rw[j];simp only[hh,gj,hc,g];simpa using f
 refine bm.same fun H w aa ag β s t m _=>⟨.int k n,?_,by simp[ar,aA],by simp[aB]⟩
 have d:=(m x (i x s_)).1;rw[hx]at d;simp only[ar,aA]at d;have e:=GV (ρc:=s) l a n h (fun y f=>(m y (i y (by simp[f]))).1);simp only[db,j,resolve,hc,g];cases isMax with
 |true=>
  simp only[if_true]at e⊢;simp[invoke,builtin,ge,d,e]
 |false=>
  simp only[cR,if_false]at e⊢;simp[invoke,builtin,gc,d,e]
theorem aAq{c:Call}{d x:c7}{sz b an off len:Nat}{k:AK}{f g:List AV}{H0:Heap}(U:o.op= .call c)(hc:c.callee= .builtin .copy)(O:c.args.toList=[d,x])(au:c.argTypes.size=2)(t:cQ P (c.argTypes.getD 0 0)=some sz)
 (ac:ρ d=.sl b an sz off len)(hx:gI H0 (ρ x)=some g)(aq:fc P sz g)(hk:k≠.frozen)(hl:off+len<=f.length)(C:¬dc k f):
 bm P o ρ base {v:=.p (.int .i64 (min g.length len:Nat)),aj:=(b,.arr k an sz f)::dB H0 (ρ x),aG:=[(b,.arr k an sz (f.take off++g.take (min g.length len)++f.drop (off+min g.length len)))]}:=by
 obtain⟨T,X,N⟩:∃T X,c.argTypes=#[T,X]:=by
  obtain⟨l,hl⟩:∃l,l=c.argTypes.toList:=⟨_,rfl⟩
  have s:l.length=2:=by rw[hl];simpa using au
  match l,s with
  |[a,b],_=>exact⟨a,b,by apply b4;simp[<-hl]⟩
 have G:d∈o.op.operands/\x∈o.op.operands:=by
  have ab:c.args=#[d,x]:=by apply b4;simpa using O
  rw[U];simp[hh,gj,hc,ab]
 have e1:c.argTypes.getD 0 0=T:=by rw[N];rfl
 rw[e1]at t;obtain⟨e,i,t⟩:=jX t;intro H w aa ag β Z D L aj _;have r:H[b]?=some (.arr k an sz f):=aj (b,_) s_;have j:=(L d G.1).1;rw[ac]at j;simp only[ar,bH,bP]at j;obtain⟨_,_,j⟩:=j.2 k f r;have j:=j C;rcases D.cJ b _ r with hold|⟨cs,E,aD,rest,k1,k2,k3,k4,k5,k6,k7,k8⟩
 ·exact(C hold).elim
 have R:¬aa (β.ak b)/\¬ag (β.ak b):=by
  unfold cw at k7;rw[if_neg (by simpa using hk)]at k7;exact k7
 obtain⟨aC,aw,ax,ay,az⟩:=uN (pg hx (fun p al=>aj p (h2 _ al))) D (L x G.2).1 (L x G.2).2 aq;obtain⟨n,S⟩:∃n,n=min g.length len:=⟨_,rfl⟩
 rw[<-S];have Y:=az w rfl n o_;obtain⟨y,m,z,g1,g2,g3,g4,g5⟩:=jK aw 0 n o_;have av:y=[]:=by have:=(fM g4).1;simpa using this
 subst av;have ah:aC.take n=m:=by
  have:=(fM g2).1;rw[g1];simp at this⊢;rw[List.take_left' o_]
 rw[ah]at Y;simp only[j5]at g2;obtain⟨a,M,q,f1,f2,f3,f4,f5⟩:=jK k2 off n o_;have I:m.flatten.length=n*sz:=by have:=(fM g2).2;rw[this];congr 1;simp;omega
 have J:M.flatten.length=n*sz:=by have:=(fM f2).2;rw[this];congr 1;simp;omega
 have Q:cs.toList=a.flatten++M.flatten++(q.flatten++rest):=by rw[k3,f1];simp
 have W:cs.size=a.flatten.length+M.flatten.length+(q.flatten++rest).length:=by
  have:=congrArg j4 Q;simp only[hT,cb]at this;rw[this,hT]
 have K:=dz P (β.ak b) (off*sz) E m.flatten 0 cs w k1 (by rw[W,f3,I,J];simp only[kw];exact la _ _) (uT g2);simp only[kw]at K;have aS:cs.toList.take (off*sz)++m.flatten++cs.toList.drop (off*sz+m.flatten.length)=a.flatten++m.flatten++(q.flatten++rest):=by
  rw[Q,<-f3,I,<-J];exact Az _ _ _ _
 rw[aS]at K;have ao:(fd c.argTypes o.type #[Z d,Z x]).run P w=.ok (goInt n) (w.setRow (β.ak b) (a.flatten++m.flatten++(q.flatten++rest)).toArray):=by
  rw[N,j];have ai:Nat.min g.length len=n:=S.symm;have aE:∀(p:Option Addr)(n c:Nat),e8 (.slice p n c)=pure n:=fun _ _ _=>rfl;simp[fd,c6 t.gv,ay,ai,t.run,Y,K]
 have B:(f.take off++g.take n++f.drop (off+n)).length=f.length:=by simp;omega
 have aJ:cg β H β (H.set b (.arr k an sz (f.take off++g.take n++f.drop (off+n)))):=oH r (.inr (.inl ⟨_,_,_,_,_,rfl,rfl,B.symm⟩));have ap:∀A,aa A->(w.setRow (β.ak b) (a.flatten++m.flatten++(q.flatten++rest)).toArray).heap[A]?=w.heap[A]?:=fun A af=>dq w _ A _ (fun F=>R.1 (F▸af));have hrefs:aR (aH H) (f.take off++g.take n++f.drop (off+n)):=by
  have V:=cH.1 (D.refs b _ r);refine jJ (jJ ?_ ?_) ?_
  ·rw[cH];exact fun v u=>V v (h0 u)
  ·rw[cH];exact fun v u=>cH.1 ax v (h0 u)
  ·rw[cH];exact fun v u=>V v (h6 u)
 have ad:=lI r (o:=.arr k an sz (f.take off++g.take n++f.drop (off+n))) (fun _ h=>h);have ak:¬dc k (f.take off++g.take n++f.drop (off+n)):=fun h=>C ⟨h.1,by have s:=h.2;rw[<-h4]at s⊢;rw[B]at s;exact s⟩;have am:=pI D r C (o':=.arr k an sz (f.take off++g.take n++f.drop (off+n))) ak (fun _ h=>h) k1 (new:=(a.flatten++m.flatten++(q.flatten++rest)).toArray) R aJ
  (.inr ⟨_,E,a++m++q,rest,ea w _ _ _ E _ k1,by
   refine Row.mono (fun _ x=>x) ap aJ hrefs (kT.2 ⟨_,_,rfl,kT.2 ⟨_,_,rfl,f4,g2⟩,f5⟩),s_,by
   rw[<-k4,W];simp only[h9,hT,I,J],by rw[B];exact k5,fun F=>by rw[B];exact k6 F,k7,(fun ae=>(hk ae).elim),k8.2⟩) (aR.mono ad _ hrefs)
 refine⟨_,_,_,β,aa,UE U hc O ao,.inl rfl,?_,by simp[ar,aA,goInt],by simp[aB]⟩;simpa only[newAt,hW,aX]using am
end
section
variable{P:c9}{w:dk}{aa ag:Nat->Prop}{β:Bd}{H:Heap}
variable{o:Oper}{ρ:c7->AV}{base:Nat}
theorem yf{c:Call}{x:c7}(e:o.op=.call c){b:Builtin}(hc:c.callee=.builtin b)(d:c.args.toList=[x]):x∈o.op.operands/\c.args=#[x]:=by
 have a:c.args=#[x]:=by apply b4;simpa using d
 refine⟨?_,a⟩;rw[e];simp only[hh,gj,hc,a];simp
theorem w8{T:c8}{a:AV}(h:gQ P T a=true)(hs:(∃b v e i l,a=.sl b v e i l)\/a=.p .aK\/∃f c,a=.p (.bE f c)):∃e,P.underlying T=some (.slice e):=by
 rcases hs with⟨b,v,e,i,l,rfl⟩|rfl|⟨f,c,rfl⟩<;>
 ·simp only[gQ]at h
  split at h
  ·rename_i e d;exact⟨e,d⟩
  ·simp at h
theorem aAp{c:Call}{x:c7}{n:Nat}{aj:List (Nat×Obj)}{H0:Heap}(u:o.op= .call c)(hc:c.callee= .builtin .cap)(z:c.args.toList=[x])(hl:y9 H0 (ρ x)=some (n,aj))(k:gQ P (c.argTypes.getD 0 0) (ρ x)=true)(E:0<c.argTypes.size):
 bm P o ρ base {v:=.p (.int .i64 n),aj}/\(∀p∈aj,H0[p.1]?=some p.2):=by
 obtain⟨m,A⟩:=yf u hc z;have B:c.argTypes[0]?=some (c.argTypes.getD 0 0):=by simp[cx,E]
 generalize c.argTypes.getD 0 0=T at*
 have i:∀{H:Heap}{w:dk}{aa:Nat->Prop}{β:Bd}{d:c7->da},(∃p l,d x= .slice p l n)->(∃e,P.underlying T=some (.slice e))->
  ∃r,(db d o).run P w=.ok (.value r) w/\ar P w aa β H (.p (.int .i64 n)) r/\aB (aH H) (.p (.int .i64 n)):=by
  rintro H w aa β d ⟨p,l,hx⟩ ⟨e,F⟩;refine⟨goInt n,?_,by simp[ar,aA,goInt],by simp[aB]⟩;simp only[db,u,resolve,hc,A];simp[invoke,builtin,gg,B,hx,c6 F]
 unfold y9 at hl
 split at hl
 ·rename_i hx;simp at hl;obtain⟨rfl,rfl⟩:=hl;refine⟨bm.same fun H w aa ag β d q f aj=>i ?_ (w8 k (.inr (.inl hx))),s_⟩;have a:=(f x m).1;rw[hx]at a;simp only[ar,aA]at a;exact⟨_,_,a⟩
 ·rename_i g hx;simp at hl;obtain⟨rfl,rfl⟩:=hl;refine⟨bm.same fun H w aa ag β d q f aj=>i ?_ (w8 k (.inr (.inr ⟨_,_,hx⟩))),s_⟩;have a:=(f x m).1;rw[hx]at a;simp only[ar,aA]at a;obtain⟨_,_,cap,_,_,_,_,_,y,_,_,_,j⟩:=a;exact⟨_,_,by rw[j,y trivial]⟩
 ·rename_i b an ai off len hx
  split at hl
  case h_2=>simp at hl
  rename_i K J g D
  split at hl
  case isFalse=>simp at hl
  rename_i C;obtain⟨rfl,rfl,hle⟩:=C;simp at hl;obtain⟨rfl,rfl⟩:=hl;refine⟨bm.same fun H w aa ag β d q f aj=>i ?_ (w8 k (.inl ⟨_,_,_,_,_,hx⟩)),by simpa using D⟩;have t:H[b]?=some (.arr .exact an ai g):=by simpa using aj
  have a:=(f x m).1;rw[hx]at a;simp only[ar,bH,bP]at a;obtain⟨_,_,j⟩:=a.2 _ _ t;have s:¬dc .exact g:=fun h=>by simp[dc,AK.gr]at h
  rcases q.cJ b _ t with hold|⟨cs,G,I,rest,k1,k2,k3,k4,k5,k6,_⟩
  ·exact(s hold).elim
  exact⟨_,_,by rw[j s,k6 rfl]⟩
 ·simp at hl
theorem RJ{c:Call}{x:c7}(b:o.op= .call c)(hc:c.callee= .builtin .clear)(f:c.args.toList=[x])(hx:ρ x= .p .aK)(d:gQ P (c.argTypes.getD 0 0) (ρ x)=true)(j:0<c.argTypes.size):
 bm P o ρ base {v:=.p (.aE [])}:=by
 obtain⟨i,g⟩:=yf b hc f;have h:c.argTypes[0]?=some (c.argTypes.getD 0 0):=by simp[cx,j]
 generalize c.argTypes.getD 0 0=T at*;obtain⟨e,k⟩:=w8 d (.inr (.inl hx));refine bm.same fun H w aa ag β n m l aj=>?_;have a:=(l x i).1;rw[hx]at a;simp only[ar,aA]at a;refine⟨.tuple #[],?_,by simp[ar,aA,bf],by simp[aB]⟩;simp only[db,b,resolve,hc,g];simp[invoke,builtin,fb,h,a,c6 k]
theorem VF{c:Call}{x:c7}{sz b an off len:Nat}{k:AK}{d:List AV}{z:PV}(M:o.op= .call c)(hc:c.callee= .builtin .clear)(W:c.args.toList=[x])(ak:0<c.argTypes.size)(l:cQ P (c.argTypes.getD 0 0)=some sz)
 (al:cG P (dU P (c.argTypes.getD 0 0))=some z)(av:bB P (aL z)=sz)(hx:ρ x=.sl b an sz off len)(hk:k≠.frozen)(hl:off+len<=d.length)(t:¬dc k d)(au:0<len):
 bm P o ρ base {v:=.p (.aE []),aj:=[(b,.arr k an sz d)],aG:=[(b,.arr k an sz (d.take off++hU len (.p z)++d.drop (off+len)))]}:=by
 obtain⟨ad,X⟩:=yf M hc W;have Y:c.argTypes[0]?=some (c.argTypes.getD 0 0):=by simp[cx,ak]
 obtain⟨e,i,l⟩:=jX l;obtain⟨aw,r,U,z2,z3,z4⟩:=ov al;rw[l.pD]at U;intro H w aa ag β V D ap aj _;have j:H[b]?=some (.arr k an sz d):=aj (b,_) s_;have g:=(ap x ad).1;rw[hx]at g;simp only[ar,bH,bP]at g;obtain⟨_,_,g⟩:=g.2 k d j;have g:=g t;rcases D.cJ b _ j with hold|⟨cs,u,aq,rest,k1,k2,k3,k4,k5,k6,k7,k8⟩
 ·exact(t hold).elim
 have K:¬aa (β.ak b)/\¬ag (β.ak b):=by
  unfold cw at k7;rw[if_neg (by simpa using hk)]at k7;exact k7
 have Q:=z3 w aa;have R:r.cells.size=sz:=by have:=(nj Q).1;simp at this;omega
 have ao:r.cells.toList.length=sz:=by simpa using R
 have E:=uf (β:=β) (H:=H) Q len;rw[ao]at E;obtain⟨m,L⟩:∃m,m=hU len r.cells.toList:=⟨_,rfl⟩
 rw[<-L]at E;have F:Row P w aa β H sz (hU len (.p z)) m:=by
  exact E
 obtain⟨a,I,f,f1,f2,f3,f4,f5⟩:=jK k2 off len hl;have B:m.flatten.length=len*sz:=by have:=(fM F).2;rw[this];simp
 have C:I.flatten.length=len*sz:=by have:=(fM f2).2;rw[this];congr 1;simp;omega
 have J:cs.toList=a.flatten++I.flatten++(f.flatten++rest):=by rw[k3,f1];simp
 have O:cs.size=a.flatten.length+I.flatten.length+(f.flatten++rest).length:=by
  have:=congrArg j4 J;simp only[hT,cb]at this;rw[this,hT]
 have G:=dz P (β.ak b) (off*sz) u m.flatten 0 cs w k1 (by rw[O,f3,B,C];simp only[kw];exact la _ _) (uT F);simp only[kw]at G;have aS:cs.toList.take (off*sz)++m.flatten++cs.toList.drop (off*sz+m.flatten.length)=a.flatten++m.flatten++(f.flatten++rest):=by
  rw[J,<-f3,B,<-C];exact Az _ _ _ _
 rw[aS]at G;have am:(e9 r.cells len).toList=m.flatten:=by
  have:=xi r.cells len (by rw[R];exact l.pos);rw[L,<-this];rfl
 have ah:(db V o).run P w=.ok (.value (.tuple #[])) (w.setRow (β.ak b) (a.flatten++m.flatten++(f.flatten++rest)).toArray):=by
  obtain⟨S,rfl⟩:∃S,len=S+1:=⟨len-1,o_⟩
  simp only[db,M,resolve,hc,X];generalize c.argTypes.getD 0 0=T at*;simp only[hE,hF,hC,invoke,builtin,i0,hV,h7];have key:(fb c.argTypes o.type #[V x]).run P w=.ok (.tuple #[]) (w.setRow (β.ak b) (a.flatten++m.flatten++(f.flatten++rest)).toArray):=by
   simp[fb,Y,g,c6 l.gv,sf U z2,am,G]
  rw[key];rfl
 have s:(d.take off++hU len (AV.p z)++d.drop (off+len)).length=d.length:=by simp;omega
 have aJ:cg β H β (H.set b (.arr k an sz (d.take off++hU len (.p z)++d.drop (off+len)))):=oH j (.inr (.inl ⟨_,_,_,_,_,rfl,rfl,s.symm⟩));have ai:∀q,aa q->(w.setRow (β.ak b) (a.flatten++m.flatten++(f.flatten++rest)).toArray).heap[q]?=w.heap[q]?:=fun q ac=>dq w _ q _ (fun A=>K.1 (A▸ac));have hrefs:aR (aH H) (d.take off++hU len (AV.p z)++d.drop (off+len)):=by
  have N:=cH.1 (D.refs b _ j);refine jJ (jJ ?_ ?_) ?_
  ·rw[cH];exact fun v n=>N v (h0 n)
  ·rw[cH];intro v n;rw[List.eq_of_mem_replicate n];simp[aB]
  ·rw[cH];exact fun v n=>N v (h6 n)
 have Z:=lI j (o:=.arr k an sz (d.take off++hU len (.p z)++d.drop (off+len))) (fun _ h=>h);have ae:¬dc k (d.take off++hU len (AV.p z)++d.drop (off+len)):=fun h=>t ⟨h.1,by have y:=h.2;rw[<-h4]at y⊢;rw[s]at y;exact y⟩;have af:=pI D j t (o':=.arr k an sz (d.take off++hU len (AV.p z)++d.drop (off+len))) ae (fun _ h=>h) k1 (new:=(a.flatten++m.flatten++(f.flatten++rest)).toArray) K aJ
  (.inr ⟨_,u,a++m++f,rest,ea w _ _ _ u _ k1,by
   refine Row.mono (fun _ x=>x) ai aJ hrefs (kT.2 ⟨_,_,rfl,kT.2 ⟨_,_,rfl,f4,F⟩,f5⟩),s_,by
   rw[<-k4,O];simp only[h9,hT,B,C],by rw[s];exact k5,fun A=>by rw[s];exact k6 A,k7,(fun ab=>(hk ab).elim),k8.2⟩) (aR.mono Z _ hrefs)
 refine⟨_,_,_,β,aa,ah,.inl rfl,?_,by simp[ar,aA,bf],by simp[aB]⟩;simpa only[newAt,hW,aX]using af
theorem AE{c:Call}{x:c7}{v:AV}{aj:List (Nat×Obj)}{H0:Heap}(l:o.op= .call c)(hc:c.callee= .builtin .unsafeSliceData)(n:c.args.toList=[x])
 (h:(ρ x=.p .aK/\v=.p .dE/\aj=[])\/∃b an ai off len k a,ρ x=.sl b an ai off len/\H0[b]?=some (.arr k an ai a)/\aj=[(b,.arr k an ai a)]/\((dc k a/\v=.p .dE)\/(0<len/\off+len<=a.length/\v=.b6 b an ai off []))):
 bm P o ρ base {v,aj}:=by
 obtain⟨s,q⟩:=yf l hc n;refine bm.same fun H w aa ag β m t y r=>?_;obtain⟨d,i⟩:=y x s;have g:∀f,(gb c.argTypes o.type #[m x]).run P w=.ok f w->(db m o).run P w=.ok (.value f) w:=by
  intro f u;simp only[db,l,resolve,hc,q];simp only[hE,hF,hC,invoke,builtin,i0,hV,h7];rw[u];rfl
 rcases h with⟨hx,rfl,rfl⟩|⟨b,an,ai,off,len,k,a,hx,C,rfl,h⟩
 ·rw[hx]at d;simp only[ar,aA]at d;exact⟨_,g _ (by rw[d];exact Lib.run_unsafeSliceData_nil w _ _ _ _),by simp[ar,aA],by simp[aB]⟩
 ·have j:H[b]?=some (.arr k an ai a):=by simpa using r
  rw[hx]at d i;simp only[ar,bH,bP]at d;obtain⟨_,v2,v3⟩:=d.2 k a j;rcases h with⟨e,rfl⟩|⟨D,hle,rfl⟩
  ·exact⟨_,g _ (by rw[v2 e];exact Lib.run_unsafeSliceData_nil w _ _ _ _),by simp[ar,aA],by simp[aB]⟩
  ·have e:¬dc k a:=fun h=>by rw[h.2]at hle;simp at hle;omega
   rcases t.cJ b _ j with hold|⟨cs,z,A,rest,k1,k2,k3,k4,k5,_⟩
   ·exact(e hold).elim
   refine⟨_,g _ (by rw[v3 e];exact Lib.run_unsafeSliceData_row w _ _ _ _ _ o_),?_,by simpa only[aB]using i⟩;simp only[ar,bH,bP];refine⟨by simp[hN],β.ak b,off*ai,0,s_,rfl,fun E B hl _=>⟨rfl,s_⟩⟩
theorem UY(w:dk)(a:Addr)(n:Nat):(w.freeze a n).os=w.os/\(w.freeze a n).output=w.output:=by
 unfold hP
 first|exact⟨rfl,rfl⟩|(split<;>exact⟨rfl,rfl⟩)
theorem UQ{w':dk}(j:bX P w aa β H ag){b:Nat}{o:Obj}(i:H[b]?=some o)(hl:o.live)(g:¬aa (β.ak b)/\¬ag (β.ak b))(B:∀L,o≠ .loop L)(C:w'.heap.size=w.heap.size)
 (hs:∀k,k≠β.ak b->w'.heap[k]?=w.heap[k]?)(A:w'.os=w.os/\w'.output=w.output:=by exact⟨rfl,rfl⟩):bV P ag aa w β H aa w' β (H.set b .dead):=by
 have n:b<H.length:=(hR.1 i).1;have c:∀(x:Nat)(a:Obj),(H.set b Obj.dead)[x]?=some a->a≠.dead->H[x]?=some a:=by
  intro x a hx q
  by_cases l:b=x
  ·subst l;rw[hS n]at hx;cases hx;exact(q rfl).elim
  ·rwa [h3 l]at hx
 have aJ:cg β H β (H.set b .dead):=by
  refine⟨?_,?_,?_,?_,?_⟩
  ·rintro x _ ⟨f,t,h⟩;exact⟨⟨f,t,c _ _ h s_⟩,rfl⟩
  ·rintro x _ ⟨f,t,h⟩;exact⟨⟨f,t,c _ _ h s_⟩,rfl⟩
  ·rintro x _ ⟨D,h,p⟩;exact⟨⟨D,c _ _ h (fun e=>by rw[e]at p;exact p.elim),p⟩,rfl⟩
  ·intro x an ai k v _ h;exact⟨k,v,c _ _ h s_,kp _,Iff.rfl,fun _=>⟨rfl,rfl⟩⟩
  ·rintro x _ ⟨L,h⟩;exact⟨⟨L,c _ _ h s_⟩,rfl⟩
 have m:bV P ag aa w β H aa w β (H.set b .dead):=
  bV.set j n (fun _ _=>⟨rfl,rfl⟩) (fun _ x=>x) (fun _ x=>.inl x) j.bR (kp _) (fun _ _ _=>rfl) (fun h=>h.elim) aJ trivial trivial (fun _ _ _ _=>trivial) (fun L s=>by rw[i]at s;cases s;exact(B L rfl).elim)
 have hx:=j.nF i hl;have y:=m.rel.Ji hx (fun x a r d u=>by
  have q:a≠.dead:=fun e=>by rw[e]at d;exact d
  have l:x=b:=j.inj x b a o (c _ _ r q) i d hl (fun hi=>g.1 (u▸hi)) u;subst l;rw[hS n]at r;cases r;exact d)
 have z:=y.shut (w':=w') (Prot0:=ag) (fun _ h=>.inl h) (R:=fun k=>k=β.ak b) (fun x e=>⟨.inr e,e▸g.1⟩) C (fun k hk=>hs k hk);refine⟨fun _ h=>h,fun _ h=>.inl h,⟨o_,fun k hk=>hs k (fun e=>?_),A⟩,aJ,z,m.fp,m.loop⟩;rcases hk with hk|hk
 ·exact g.2 (e▸hk)
 ·exact g.1 (e▸hk)
theorem Bk:∀{d:List AV}{l:List Nat}{b:List (List da)},bytesOf d=some l->Row P w aa β H 1 d b->b.flatten=l.map (fun c=>hO .u8 (c:Nat))/\l.length=d.length/\∀c∈l,c<256
 |[],l,b,h,a=>by
  simp[bytesOf]at h;subst h;rw[ia]at a;subst a;simp
 |v::d,l,b,h,a=>by
  unfold bytesOf at h
  split at h
  ·rename_i e;cases e
  ·rename_i c r e;simp at e;obtain⟨rfl,rfl⟩:=e
   split at h
   case isFalse=>simp at h
   rename_i hc
   split at h
   case h_2=>simp at h
   rename_i m i;simp at h;subst h;rw[pQ]at a;obtain⟨j,cs,rfl,f,k,g⟩:=a;obtain⟨i1,i2,i3⟩:=Bk i g;simp only[bg,aV]at f;subst f;refine⟨by simp[i1];omega,by simp[i2],?_⟩;intro x hx;rcases hX.1 hx with rfl|hx
   ·omega
   ·exact i3 x hx
  ·simp at h
theorem RY{S D e:c8}{x:c7}{b an off len:Nat}{k:AK}{d:List AV}{l:List Nat}(r:o.op= .convert S D x)(B:P.underlying S=some (.slice e))(y:P.underlying D=some .string)(A:P.underlying e=some (.int .u8))(hx:ρ x= .sl b an 1 off len)
 (L:0<len)(j:off+len<=d.length)(hl:bytesOf ((d.drop off).take len)=some l):bm P o ρ base {v:=.p (.str l),aj:=[(b,.arr k an 1 d)]}:=by
 refine bm.same fun H w aa ag β M F I aj=>?_;have q:H[b]?=some (.arr k an 1 d):=by simpa using aj
 have f:=(I x (by simp[r,hh])).1;rw[hx]at f;simp only[ar,bH,bP]at f;have n:¬dc k d:=fun h=>by rw[h.2]at j;simp at j;omega
 have f:=(f.2 _ _ q).2.2 n;rcases F.cJ b _ q with hold|⟨cs,J,K,rest,k1,k2,k3,k4,k5,k6,k7,k8⟩
 ·exact(n hold).elim
 obtain⟨a,m,z,g1,g2,g3,g4,g5⟩:=jK k2 off len j;obtain⟨s,t,u⟩:=Bk hl g2;have E:l.length=len:=by rw[t];simp;omega
 have C:cs.toList=a.flatten++(l.map (fun c=>hO .u8 (c:Nat))++(z.flatten++rest)):=by
  rw[k3,g1];simp only[ip,ih,s]
 have G:=run_convert_bytes_arg (P:=P) w S e B A (β.ak b) (off*1) len (β.cap b-off) (l.map fun c:Nat=>(c:Int)) (by simpa using E) (fun i hi=>by
  have g:i<l.length:=o_
  have:cs[off*1+i]?=some (.int .u8 (l[i]:Nat)):=by
   rw[<-b5,C,List.getElem?_append_right o_,g3,Nat.add_sub_cancel_left,iz (by simpa using g),j3,hZ g];rfl
  rw[List.getD_eq_getElem?_getD,j3,hZ g];simp only[hQ,k1];simpa using this) D y
 refine⟨.string (strOfNums (l.map fun c:Nat=>(c:Int))),?_,?_,by simp[aB]⟩
 ·simp only[db,r,f];exact ek G
 ·simp only[ar,aA];refine⟨_,rfl,?_⟩;rw[strOfNums_data,i6,i6]
  conv=>lhs;rw[<-ko l]
  refine j1 fun c hc=>?_;have:=u c hc;simp[l1];omega
theorem Rl{c:Call}{x y:c7}{b an n:Nat}{d:List AV}{l:List Nat}{T X:c8}(F:o.op= .call c)(hc:c.callee= .builtin .unsafeString)(N:c.args.toList=[x,y])(ab:c.argTypes=#[T,X])(hx:ρ x= .b6 b an 1 0 [])(ad:ρ y= .p (.int .i64 n))
 (ah:0<n)(C:n<=d.length)(ai:n<=9223372036854775807)(M:P.underlying T=some (.pointer Gl.u8))(ac:P.cellsOf Gl.u8=1)(hl:bytesOf (d.take n)=some l):
 bm P o ρ base {v:=.p (.str l),aj:=[(b,.arr .bytes an 1 d)],aG:=[(b,.dead)]}:=by
 have s:c.args=#[x,y]:=by apply b4;simpa using N
 have D:x∈o.op.operands/\y∈o.op.operands:=by
  rw[F];simp[hh,gj,hc,s]
 intro H w aa ag β r G I aj _;have q:H[b]?=some (.arr .bytes an 1 d):=by simpa using aj
 have e:=(I x D.1).1;have f:=(I y D.2).1;rw[hx]at e;rw[ad]at f;simp only[ar,bH,bP,aA]at e f;have i:¬dc .bytes d:=fun h=>by rw[h.2]at C;simp at C;omega
 obtain⟨_,ak,off,al,W,E,e⟩:=e;simp[gd]at E;subst E;obtain⟨rfl,rfl⟩:=e _ _ q i;rcases G.cJ b _ q with hold|⟨cs,ae,af,rest,k1,k2,k3,k4,k5,k6,k7,k8⟩
 ·exact(i hold).elim
 obtain rfl:=k8.2 rfl;have U:¬aa (β.ak b)/\¬ag (β.ak b):=by
  unfold cw at k7;rw[if_neg s_]at k7;exact k7
 obtain⟨a,m,z,g1,g2,g3,g4,g5⟩:=jK k2 0 n o_;have O:a=[]:=by have:=(fM g4).1;simpa using this
 subst O;rw[j5]at g2;obtain⟨J,K,L⟩:=Bk hl g2;obtain⟨bs,u⟩:∃bs:List UInt8,bs=l.map l3:=⟨_,rfl⟩
 have g:bs.length=n:=by rw[u];simp[K];omega
 have t:bs.map (·.toNat)=l:=by
  rw[u,i6]
  conv=>rhs;rw[<-ko l]
  refine j1 fun c hc=>?_;have:=L c hc;simp[l1];omega
 have A:cs.toList=bs.map (fun c=>hO .u8 c.toNat)++(z.flatten++rest):=by
  rw[k3,g1];simp only[i7,ip,ih,J];congr 1;rw[<-t,i6];rfl
 have Z:=Lib.run_unsafeString_row (P:=P) w T X o.type Gl.u8 M ac (β.ak b) cs.size (by simp[World.shape?,k1]) bs (fun h=>by rw[h]at g;simp at g;omega) (by
  have:=congrArg j4 A;simp only[cb,hT,kd]at this;omega) o_ (fun j v B=>by
  have V:j<bs.length:=(hR.1 B).1;rw[kb];have:cs[j]?=some (.int .u8 v.toNat):=by
   rw[<-b5,A,iz (by simpa using V),j3,B];rfl
  simp[hQ,k1,this])
 have Q:(db r o).run P w=.ok (.value (.string ⟨bs.toArray⟩)) (w.freeze ⟨β.ak b,0,none⟩ bs.length):=by
  simp only[db,F,resolve,hc,s];simp only[hE,hF,hC,invoke,builtin,i0,hV,h7];have key:(fl c.argTypes o.type #[r x,r y]).run P w=.ok (.string ⟨bs.toArray⟩) (w.freeze ⟨β.ak b,0,none⟩ bs.length):=by
   rw[ab,W,f,<-g];simpa using Z
  rw[key];rfl
 have S:∀k,k≠β.ak b->(w.freeze ⟨β.ak b,0,none⟩ bs.length).heap[k]?=w.heap[k]?:=by
  intro k hk;unfold hP
  split
  ·rfl
  ·simp[Array.getElem?_modify,ln hk]
 have R:(w.freeze ⟨β.ak b,0,none⟩ bs.length).heap.size=w.heap.size:=by
  unfold hP
  split<;>simp
 have Y:=UQ G q i U (fun _ h=>by cases h) R S (UY _ _ _);refine⟨_,_,_,β,aa,Q,.inl rfl,?_,?_,by simp[aB]⟩
 ·simpa only[newAt,hW,aX]using Y
 ·simp only[ar,aA];exact⟨_,rfl,by simpa using t.symm⟩
theorem Ri{c:Call}{x y:c7}{T X:c8}(f:o.op= .call c)(hc:c.callee= .builtin .unsafeString)(i:c.args.toList=[x,y])(j:c.argTypes=#[T,X])(hx:ρ x= .p .dE)(k:ρ y= .p (.int .i64 0)):
 bm P o ρ base {v:=.p (.str [])}:=by
 have d:c.args=#[x,y]:=by apply b4;simpa using i
 have e:x∈o.op.operands/\y∈o.op.operands:=by
  rw[f];simp[hh,gj,hc,d]
 refine bm.same fun H w aa ag β h l g aj=>?_;have a:=(g x e.1).1;have b:=(g y e.2).1;rw[hx]at a;rw[k]at b;simp only[ar,aA]at a b;refine⟨.string .empty,?_,by simp only[ar,aA];exact⟨_,rfl,rfl⟩,by simp[aB]⟩;simp only[db,f,resolve,hc,d];simp only[hE,hF,hC,invoke,builtin,i0,hV,h7];have key:(fl c.argTypes o.type #[h x,h y]).run P w=.ok (.string .empty) w:=by
  rw[j,a,b];exact Lib.run_unsafeString_none w _ _ _ _
 rw[key];rfl
end
section
variable{P:c9}
theorem CG{c:Call}{ρ:c7->AV}{x:AV}(a:c.args.toList.map ρ=[x]):∃y,c.args.toList=[y]/\ρ y=x:=by
 match b:c.args.toList with
 |[]=>rw[b]at a;simp at a
 |[y]=>rw[b]at a;simp at a;exact⟨y,rfl,a⟩
 |_::_::_=>rw[b]at a;simp at a
theorem Ie{c:Call}(h:c.argTypes.size=2):∃T X,c.argTypes=#[T,X]:=by
 obtain⟨l,hl⟩:∃l,l=c.argTypes.toList:=⟨_,rfl⟩
 have d:l.length=2:=by rw[hl];simpa using h
 match l,d with
 |[a,b],_=>exact⟨a,b,by apply b4;simp[<-hl]⟩
theorem ot(ah:dg->Bool):ly P ah:=by
 intro o ρ H K _ h;unfold fy at h;have plain:∀{e:aU},K e->bm P o ρ H.length e->e.aj=[]->e.aG=[]->∃e,K e/\bm P o ρ H.length e/\(∀p∈e.aj,H[p.1]?=some p.2)/\(∀p∈e.aG,p.1<H.length/\p.2≠.hole):=by
  intro e A B C G;exact⟨e,A,B,by simp[C],by simp[G]⟩
 cases q:o.op<;>simp only[q]at h
 case move x=>exact plain h (O7 (.inl q)) rfl rfl
 case assign x=>exact plain h (O7 (.inr q)) rfl rfl
 case pick c a b=>
  split at h
  ·rename_i t hc;exact plain h (aAv q hc) rfl rfl
  ·exact h.elim
 case alloc T=>
  split at h
  ·rename_i z M;exact plain h.2.2.2 (VH q M h.2.2.1) rfl rfl
  ·exact h.elim
 case box T x=>exact plain h.2.2.2 (aAo q h.2.1 h.2.2.1) rfl rfl
 case build T parts=>
  split at h
  ·rename_i u z hk M
   split at h
   ·rename_i l hl;obtain⟨A,B,C⟩:=h;exact plain C (VG q hk M hl A B) rfl rfl
   ·exact h.elim
  ·exact h.elim
 case buildSlice T n parts=>
  split at h
  ·rename_i sz z U M;obtain⟨A,B,C,G⟩:=h;exact plain G (RL q U M A B C) rfl rfl
  ·exact h.elim
 case load T a=>exact aAt q h
 case store T a x=>exact Wi q h
 case binOp b T x y aF=>
  obtain⟨v,A,B⟩:=aAn (base:=H.length) q h;exact⟨_,A,B,mV,s_⟩
 case unOp u T x=>
  split at h
  ·rename_i b hx;exact plain h (DE q hx (.inl ⟨rfl,_,rfl,rfl⟩)) rfl rfl
  ·rename_i k n hx;exact plain h (DE q hx (.inr (.inl ⟨rfl,_,_,rfl,rfl⟩))) rfl rfl
  ·rename_i k n hx;exact plain h (DE q hx (.inr (.inr ⟨rfl,_,_,rfl,rfl⟩))) rfl rfl
  ·exact h.elim
 case convert S D x=>
  split at h
  ·rename_i d k k0 n aa Z hx;exact plain h (Tm q ⟨_,aa⟩ Z hx) rfl rfl
  ·rename_i d s aa Z hx;exact plain h (Tl q ⟨_,aa⟩ Z hx) rfl rfl
  ·rename_i e b an ai off len aa Z hx
   split at h
   case h_2=>exact h.elim
   rename_i k ag ae R w;obtain⟨rfl,rfl,rfl,U,ak,hle,h⟩:=h
   split at h
   case h_2=>exact h.elim
   rename_i l hl;exact⟨_,h,RY q aa Z U hx ak hle hl,by simpa using w,s_⟩
  ·exact h.elim
 case extract t i=>
  split at h
  ·rename_i vs ap
   split at h
   ·rename_i v aq;exact plain h (H3 q (.inr ⟨_,ap,rfl⟩) (by simp[aq])) rfl rfl
   ·exact h.elim
  ·rename_i vs ap
   split at h
   ·rename_i v aq;exact plain h (H3 q (.inl ap) aq) rfl rfl
   ·exact h.elim
  ·exact h.elim
 case fieldAddr T a f=>
  obtain⟨e,A,B,C,G⟩:=RX (base:=H.length) q h;exact plain A B C G
 case indexAddr T x i=>
  obtain⟨e,A,B,C,G⟩:=RW (base:=H.length) q h;exact⟨e,A,B,C,by simp[G]⟩
 case field T x f=>
  split at h
  ·rename_i u fs t hk az hx;obtain⟨A,h⟩:=h
   split at h
   ·rename_i g F ao al;exact plain h.2 (VE q hk az hx A ao al h.1) rfl rfl
   ·exact h.elim
  ·exact h.elim
 case index T x i=>
  split at h
  ·rename_i s k n hx hi;obtain⟨A,B,C,G⟩:=h;exact plain G (SZ q hx hi A B C) rfl rfl
  ·rename_i u R k n hx hi
   split at h
   ·rename_i u' m F g I al ao;obtain⟨rfl,ak,ab,hk,h⟩:=h;exact plain h (S0 q I hx hi ak ab al ao hk) rfl rfl
   ·exact h.elim
  ·exact h.elim
 case makeFunc fn fi ca=>
  cases fn<;>simp only at h
  case func f=>
   obtain⟨m1,m2,m3⟩:=SY (ρ:=ρ) (base:=H.length) q
   split at h
   ·split at h
    ·rename_i a b aj aG j am;obtain⟨q1,ac,aE⟩:=m3 H a b aj aG j am;exact⟨_,h,q1,ac,aE⟩
    ·exact h.elim
   ·split at h
    ·rename_i a b j am;exact plain h (m1 a b j am) rfl rfl
    ·exact plain h m2 rfl rfl
 case makeSlice T l c=>
  split at h
  ·rename_i sz z aH c' U M hl hc;obtain⟨A,B,rfl,G,N⟩:=h;exact plain N (RV q U M hl hc A B G) rfl rfl
  ·exact h.elim
 case slice T x lo hi aA=>
  cases aA with
  |none=>
   obtain⟨e,A,B,C,G⟩:=VC (base:=H.length) q h;exact⟨e,A,B,C,by simp[G]⟩
  |some m=>
   obtain⟨e,A,B,C,G⟩:=Us (base:=H.length) q h;exact⟨e,A,B,C,by simp[G]⟩
 case makeMap T r=>
  cases r<;>simp only at h;exact plain h (Tk q) rfl rfl
 case lookup T x i ok=>
  split at h
  case h_2=>exact h.elim
  rename_i ad E key I hi
  split at h
  case h_2=>exact h.elim
  rename_i z M;obtain⟨hk,h⟩:=h
  split at h
  ·rename_i hx;exact plain h (uq (r:=none) (es:=[]) q I M hi hk rfl (.inl ⟨hx,rfl⟩)) rfl rfl
  ·rename_i R hx
   split at h
   ·rename_i v hl;exact plain h (uq (r:=some v) q I M hi hk hl (.inr (.inl hx))) rfl rfl
   ·rename_i hl;exact plain h (uq (r:=none) q I M hi hk hl (.inr (.inl hx))) rfl rfl
   ·exact h.elim
  ·rename_i b hx
   split at h
   case h_3=>exact h.elim
   ·rename_i fz R w
    split at h
    ·rename_i v hl;exact⟨_,h,uq (r:=some v) q I M hi hk hl (.inr (.inr ⟨b,fz,hx,s_⟩)),by simpa using w,s_⟩
    ·rename_i hl;exact⟨_,h,uq (r:=none) q I M hi hk hl (.inr (.inr ⟨b,fz,hx,s_⟩)),by simpa using w,s_⟩
    ·exact h.elim
   ·rename_i ks vs w;obtain⟨O,h⟩:=h
    split at h
    ·rename_i v hl;exact⟨_,h,EZ (r:=some v) q I M hi hk O hl hx,by simpa using w,s_⟩
    ·rename_i hl;exact⟨_,h,EZ (r:=none) q I M hi hk O hl hx,by simpa using w,s_⟩
    ·exact h.elim
  ·exact h.elim
 case mapUpdate T m k x=>
  split at h
  case h_3=>exact h.elim
  ·rename_i ad E b key v I V hk hx;obtain⟨hf,h⟩:=h
   split at h
   case h_3=>exact h.elim
   ·rename_i R w
    split at h
    case h_2=>exact h.elim
    rename_i r hl;exact⟨_,h,GL (.inl q) I V hk hx hf hl,by simpa using w,by simpa using(hR.1 w).1⟩
   ·rename_i ks vs w;obtain⟨ar,au,j,O,hl,h⟩:=wx h;rw[<-hx]at h;exact⟨_,h,wv (.inl q) I V hk hf j O hl,by simpa using w,by simpa using(hR.1 w).1⟩
  ·rename_i ad E b key I V hk _;obtain⟨hf,h⟩:=h
   split at h
   case h_2=>exact h.elim
   rename_i aD w;obtain⟨ar,au,j,O,hl,h⟩:=wx h;exact⟨_,h,wv (.inl q) I V hk hf j O hl,by simpa using w,by simpa using(hR.1 w).1⟩
 case insert T m k x=>
  split at h
  case h_3=>exact h.elim
  ·rename_i ad E b key v I V hk hx;obtain⟨hf,h⟩:=h
   split at h
   case h_3=>exact h.elim
   ·rename_i R w
    split at h
    case h_2=>exact h.elim
    rename_i r hl;exact⟨_,h,GL (.inr q) I V hk hx hf hl,by simpa using w,by simpa using(hR.1 w).1⟩
   ·rename_i ks vs w;obtain⟨ar,au,j,O,hl,h⟩:=wx h;rw[<-hx]at h;exact⟨_,h,wv (.inr q) I V hk hf j O hl,by simpa using w,by simpa using(hR.1 w).1⟩
  ·rename_i ad E b key I V hk _;obtain⟨hf,h⟩:=h
   split at h
   case h_2=>exact h.elim
   rename_i aD w;obtain⟨ar,au,j,O,hl,h⟩:=wx h;exact⟨_,h,wv (.inr q) I V hk hf j O hl,by simpa using w,by simpa using(hR.1 w).1⟩
 case range T x=>
  split at h
  ·rename_i s hx;exact plain h.2 (VD q hx h.1) rfl rfl
  ·exact h.elim
 case next it isStr=>
  cases isStr<;>simp only at h
  split at h
  case h_2=>exact h.elim
  rename_i b hx
  split at h
  case h_2=>exact h.elim
  rename_i s pos w;obtain⟨aB,aC⟩:=aAu (P:=P) (base:=H.length) (s:=s) (pos:=pos) q hx
  split at h
  ·rename_i W;exact⟨_,h,aB W,by simpa using w,by simpa using(hR.1 w).1⟩
  ·rename_i W;exact⟨_,h,aC W,by simpa using w,s_⟩
 case nilCheck x=>
  split at h
  ·rename_i b p hx;exact plain h (AB q (.inl ⟨b,p,hx⟩)) rfl rfl
  ·rename_i b v e i p hx;exact plain h (AB q (.inr (.inl ⟨b,v,e,i,p,hx⟩))) rfl rfl
  ·rename_i t hx;exact plain h (AB q (.inr (.inr ⟨t,hx⟩))) rfl rfl
  ·exact h.elim
 case call c=>
  split at h
  case h_2=>exact h.elim
  rename_i b hc
  split at h
  ·rename_i x j
   split at h
   case h_2=>exact h.elim
   rename_i n aj hl;obtain⟨A,B,C⟩:=h;obtain⟨y,L,rfl⟩:∃y,c.args.toList=[y]/\ρ y=x:=by
    match J:c.args.toList with
    |[]=>rw[J]at j;simp at j
    |[y]=>rw[J]at j;simp at j;exact⟨y,rfl,j⟩
    |_::_::_=>rw[J]at j;simp at j
   obtain⟨q1,ac⟩:=aAs (P:=P) (base:=H.length) q hc L hl A B;exact⟨_,C,q1,ac,s_⟩
  ·rename_i s x j;obtain⟨y,z,L,rfl,rfl⟩:∃y z,c.args.toList=[y,z]/\ρ y=s/\ρ z=x:=by
    match J:c.args.toList with
    |[]=>rw[J]at j;simp at j
    |[y]=>rw[J]at j;simp at j
    |[y,z]=>rw[J]at j;simp at j;exact⟨y,z,rfl,j.1,j.2⟩
    |_::_::_::_=>rw[J]at j;simp at j
   exact Uu q hc L h.1 h.2
  ·rename_i k a r j
   split at h
   ·rename_i n ab;exact plain h (Is (isMax:=false) q hc j ab) rfl rfl
   ·exact h.elim
  ·rename_i k a r j
   split at h
   ·rename_i n ab;exact plain h (Is (isMax:=true) q hc j ab) rfl rfl
   ·exact h.elim
  ·rename_i d x j;obtain⟨y,z,L,ax,rfl⟩:∃y z,c.args.toList=[y,z]/\ρ y=d/\ρ z=x:=by
    match J:c.args.toList with
    |[]=>rw[J]at j;simp at j
    |[y]=>rw[J]at j;simp at j
    |[y,z]=>rw[J]at j;simp at j;exact⟨y,z,rfl,j.1,j.2⟩
    |_::_::_::_=>rw[J]at j;simp at j
   split at h
   case h_2=>exact h.elim
   rename_i sz b an ai off len aI U hx;obtain⟨rfl,A,B,h⟩:=h
   split at h
   case h_2=>exact h.elim
   rename_i k ag ae R w;obtain⟨rfl,rfl,C,G,N,Y⟩:=h;refine⟨_,Y,aAq q hc L B U ax hx A C G N,?_,by simpa using(hR.1 w).1⟩;intro p W;rcases hX.1 W with rfl|W
   ·exact w
   ·exact mV p W
  ·rename_i x j;obtain⟨y,L,rfl⟩:=CG j
   split at h
   case h_2=>exact h.elim
   rename_i n aj hl;obtain⟨A,B,C⟩:=h;obtain⟨q1,ac⟩:=aAp (P:=P) (base:=H.length) q hc L hl A B;exact⟨_,C,q1,ac,s_⟩
  ·rename_i x j;obtain⟨y,L,Q⟩:=CG j
   split at h
   ·rw[<-Q]at h;exact plain h.2.2 (RJ q hc L Q h.1 h.2.1) rfl rfl
   ·split at h
    ·rename_i b an ai off len sz z k ag ae R U M w;obtain⟨rfl,rfl,rfl,A,B,C,G,N,Y,aw⟩:=h;exact⟨_,aw,VF q hc L N U M A Q B C G Y,by simpa using w,by simpa using(hR.1 w).1⟩
    ·exact h.elim
   ·exact h.elim
  ·rename_i x j;obtain⟨y,L,Q⟩:=CG j
   split at h
   ·exact plain h (AE (H0:=H) q hc L (.inl ⟨Q,rfl,rfl⟩)) rfl rfl
   ·split at h
    ·rename_i b an ai off len k ag ae R w;obtain⟨rfl,rfl,h⟩:=h;rcases h with⟨A,B,C⟩|⟨A,B,C⟩
     ·exact⟨_,C,AE q hc L (.inr ⟨_,_,_,_,_,_,_,Q,w,rfl,.inl ⟨⟨A,B⟩,rfl⟩⟩),by simpa using w,s_⟩
     ·exact⟨_,C,AE q hc L (.inr ⟨_,_,_,_,_,_,_,Q,w,rfl,.inr ⟨A,B,rfl⟩⟩),by simpa using w,s_⟩
    ·exact h.elim
   ·exact h.elim
  ·rename_i x n j;obtain⟨y,z,L,Q,av⟩:∃y z,c.args.toList=[y,z]/\ρ y=x/\ρ z=.p (.int .i64 n):=by
    match J:c.args.toList with
    |[]=>rw[J]at j;simp at j
    |[y]=>rw[J]at j;simp at j
    |[y,z]=>rw[J]at j;simp at j;exact⟨y,z,rfl,j.1,j.2⟩
    |_::_::_::_=>rw[J]at j;simp at j
   split at h
   ·obtain⟨rfl,A,B⟩:=h;obtain⟨T,X,af⟩:=Ie A;exact plain B (Ri q hc L af Q av) rfl rfl
   ·split at h
    ·rename_i b an ai i ag ae R w;obtain⟨rfl,rfl,rfl,rfl,A,B,C,G,N,Y,h⟩:=h;obtain⟨T,X,af⟩:=Ie G
     split at h
     ·rename_i l hl;obtain⟨m,rfl⟩:=Int.eq_ofNat_of_zero_le (by omega:0<=n);simp only[Int.toNat_natCast]at B hl;have I:P.underlying T=some (.pointer Gl.u8):=by
       rw[af]at N;simp only[ptrTo]at N
       split at N
       ·rename_i e ay;simp at N;rw[<-N];exact ay
       ·simp at N
      exact⟨_,h,Rl q hc L af Q av o_ B o_ I Y hl,by simpa using w,by simpa using(hR.1 w).1⟩
     ·exact h.elim
    ·exact h.elim
   ·exact h.elim
  ·exact h.elim
end
section
variable{P:c9}{ah:dg->Bool}{n:Nat}
theorem I9{o o':Obj}(h:lT o=some o'):lT o'=some o':=by
 unfold lT at h
 split at h
 ·simp at h;subst h;rfl
 ·rename_i k an ai a
  split at h
  ·simp at h
  ·split at h
   ·rename_i l hl;simp at h;subst h;simp[lT,AK.gr,hl]
   ·simp at h
 ·simp at h;subst h;rfl
 ·simp at h
theorem Yt{w:dk}{aa ag:Nat->Prop}{β:Bd}{H:Heap}(d:bX P w aa β H ag){b:Nat}{o o':Obj}(c:H[b]?=some o)(hf:lT o=some o'):
 ∃aD,bV P ag aa w β H aD w β (H.set b o')/\aD (β.ak b):=by
 unfold lT at hf
 split at hf
 ·rename_i fz t;simp at hf;subst hf;obtain⟨cs,T,g,i,j,m⟩:=d.cJ b _ c;have aJ:cg β H β (H.set b (.box true (.p t))):=pJ c (.inl ⟨_,_,_,rfl,rfl⟩);exact pN d c trivial (o':=.box true (.p t)) trivial (fun _ h=>h) (fun _ h=>by cases h) aJ j.qE
   (fun aD hi l=>⟨cs,T,g,bg.mono hi (fun _ _=>rfl) aJ _ _ (by simp[aB]) i,l,fun _=>trivial,m.2⟩) (by simp[Obj.refs,aB])
 ·rename_i k an ai f
  split at hf
  ·simp at hf
  ·rename_i q
   split at hf
   case h_2=>simp at hf
   rename_i C z;simp at hf;subst hf;have r:=lG z;rcases d.cJ b _ c with hold|⟨cs,T,u,rest,g,i,j,m,x,A,y,B⟩
   ·exact(q hold).elim
   have s:¬dc .frozen f:=fun h=>by cases h.1
   have aJ:cg β H β (H.set b (.arr .frozen an ai f)):=pJ c (.inr (.inl ⟨_,_,_,_,_,rfl,rfl,q,s⟩));exact pN d c q (o':=.arr .frozen an ai f) s (fun _ h=>h) (fun _ h=>by cases h) aJ y.qE
    (fun aD hi l=>.inr ⟨cs,T,u,rest,g,bG.mono hi (fun _ _=>rfl) aJ _ _ _ (d.refs b _ c) i,j,m,x,(fun h=>by cases h),l,fun _ e n=>(by rw[r]at n;simp at n;obtain⟨a,_,rfl⟩:=n;trivial),fun h=>by cases h⟩)
    (by rw[r];exact iR _ _)
 ·rename_i fz f;simp at hf;subst hf;obtain⟨v,clock,g,i,j⟩:=d.cJ b _ c;have aJ:cg β H β (H.set b (.map true f)):=pJ c (.inr (.inr ⟨_,_,_,rfl,rfl⟩));exact pN d c trivial (o':=.map true f) trivial (fun _ h=>h) (fun _ h=>by cases h) aJ j.qE
   (fun aD hi l=>⟨v,clock,g,cz.mono hi (fun _ _=>rfl) _ _ i,l⟩) trivial
 ·simp at hf
theorem Hq{w:dk}{ag:Nat->Prop}{β:Bd}{H0:Heap}:∀(bs:List Nat){aj aG:List (Nat×Obj)}{H:Heap}{aa:Nat->Prop},kW H0 bs=some (aj,aG)->bX P w aa β H ag->
 (∀p∈aj,∃c,H[p.1]?=some c/\lT c=lT p.2)->∃aD,bV P ag aa w β H aD w β (aX H aG)/\∀b∈bs,aD (β.ak b)
 |[],aj,aG,H,aa,h,a,_=>by
  simp[kW]at h;obtain⟨rfl,rfl⟩:=h;exact⟨aa,bV.refl a,s_⟩
 |b::bs,aj,aG,H,aa,h,a,hc=>by
  simp only[kW]at h
  split at h
  case h_2=>simp at h
  rename_i o q s r g
  split at h
  case h_2=>simp at h
  rename_i o' hf;simp at h;obtain⟨rfl,rfl⟩:=h;obtain⟨c,g1,g2⟩:=hc (b,o) s_;simp only at g1 g2;rw[hf]at g2;obtain⟨n,e,l⟩:=Yt a g1 g2;have i:b<H.length:=(hR.1 g1).1;obtain⟨f,q1,m⟩:=Hq bs g e.rel (by
   intro p j;obtain⟨k,k1,k2⟩:=hc p (by simp[j])
   by_cases d:b=p.1
   ·rw[<-d]at k1⊢;rw[g1]at k1;cases k1;refine⟨o',by rw[hS i],?_⟩;rw[<-k2,g2,I9 g2]
   ·exact⟨k,by rw[h3 d];exact k1,k2⟩)
  refine⟨f,by simpa only[aX]using e.trans q1,?_⟩;intro x hx;rcases hX.1 hx with rfl|hx
  ·exact q1.bR _ l
  ·exact m x hx
theorem Ja{H0:Heap}:∀(bs:List Nat){aj aG:List (Nat×Obj)},kW H0 bs=some (aj,aG)->(∀p∈aj,H0[p.1]?=some p.2)/\(∀p∈aG,p.1<H0.length/\p.2≠.hole)/\aj.map (·.1)=bs
 |[],aj,aG,h=>by
  simp[kW]at h;obtain⟨rfl,rfl⟩:=h;simp
 |b::bs,aj,aG,h=>by
  simp only[kW]at h
  split at h
  case h_2=>simp at h
  rename_i o f g d e
  split at h
  case h_2=>simp at h
  rename_i o' hf;simp at h;obtain⟨rfl,rfl⟩:=h;obtain⟨i1,i2,i3⟩:=Ja bs e;refine⟨?_,?_,by simp[i3]⟩
  ·intro p a;rcases hX.1 a with rfl|a
   ·exact d
   ·exact i1 p a
  ·intro p a;rcases hX.1 a with rfl|a
   ·refine⟨(hR.1 d).1,fun c=>?_⟩;simp only at c;have:=I9 hf;rw[c]at this;simp[lT]at this
   ·exact i2 p a
theorem V7{w:dk}{aa aD ag:Nat->Prop}{β:Bd}{H0 H:Heap}{a:AV}{pv:PV}{bs:List Nat}{v:da}(d:l8 H0 a=some (pv,bs))(aj:∀b∈bs,H[b]?=H0[b]?)(n:bX P w aa β H ag)(e:ar P w aa β H a v)
 (hi:∀k,aa k->aD k)(r:∀b∈bs,aD (β.ak b)):aA P w aD pv v:=by
 cases a with
 |p t=>
  simp[l8]at d;obtain⟨rfl,rfl⟩:=d;simp only[ar]at e;exact aA.mono hi (fun _ _=>rfl) _ _ e
 |sl b an ai off len=>
  simp only[l8]at d
  split at d
  case h_2=>simp at d
  rename_i k R M g l
  split at d
  case isFalse=>simp at d
  rename_i F;obtain⟨rfl,rfl,hl⟩:=F
  split at d
  ·simp at d
  ·rename_i y
   split at d
   case h_2=>simp at d
   rename_i z I;simp at d;obtain⟨rfl,rfl⟩:=d;have x:=lG I;have f:H[b]?=some (.arr k an ai g):=by rw[aj b s_];exact l
   have j:=r b s_;simp only[ar,bH,bP]at e;obtain⟨v1,v2,v3⟩:=e.2 k g f;rcases n.cJ b _ f with hold|⟨cs,T,A,rest,i,h,q,D,N,E,O,Q⟩
   ·exact(y hold).elim
   rw[v3 y];have J:Row P w aD β H ai g A:=bG.mono hi (fun _ _=>rfl) (cg.refl _ _) _ _ _ (n.refs b _ f) h;obtain⟨a,m,c,e1,e2,e3,e4,e5⟩:=jK J off len v1;rw[x,Ax,lH]at e2;have u:((z.drop off).take len).length=len:=by
    have:g.length=z.length:=by rw[x];simp
    simp;omega
   simp only[aA];refine⟨β.ak b,off*ai,β.cap b-off,ai,m,e2,fun _=>j,?_,?_,?_,none,.inl rfl,?_⟩
   ·rw[<-e3];exact lB i (post:=c.flatten++rest) (by rw[q,e1];simp)
   ·intro hf;simp at hf;rw[u,E hf.1];omega
   ·rw[u];omega
   ·rw[u]
 |ptr b path=>
  simp only[l8]at d
  split at d
  case h_2=>simp at d
  rename_i fz t l
  split at d
  case h_2=>simp at d
  rename_i s hs;simp at d;obtain⟨rfl,rfl⟩:=d;have f:H[b]?=some (.box fz (.p t)):=by rw[aj b s_];exact l
  have j:=r b s_;simp only[ar,bH,bP]at e;obtain⟨_,L,K,o,rfl,G,e⟩:=e;obtain⟨rfl,rfl⟩:=e (.inl ⟨fz,_,f⟩);obtain⟨cs,T,i,h,q,D⟩:=n.cJ b _ f;have C:aV P w aD t cs.toList:=by simp only[bg]at h;exact aV.mono hi (fun _ _=>rfl) _ _ h
  obtain⟨pre,xs,post,e1,e2,e3⟩:=xR C hs G;simp only[aA];refine⟨β.ak b,K,xs,e3,j,?_,rfl⟩;rw[<-e2];exact lB i e1
 |map b=>
  simp only[l8]at d
  split at d
  case h_2=>simp at d
  rename_i fz g l;simp at d;obtain⟨rfl,rfl⟩:=d;have f:H[b]?=some (.map fz g):=by rw[aj b s_];exact l
  have j:=r b s_;simp only[ar,bH,bP]at e;have e:=e.2.1 ⟨_,f,trivial⟩;obtain⟨B,clock,i,h,q⟩:=n.cJ b _ f;simp only[aA];exact⟨β.ak b,B,clock,j,i,cz.mono hi (fun _ _=>rfl) _ _ h,e⟩
 |b6=>simp[l8]at d
 |func=>simp[l8]at d
 |st=>simp[l8]at d
 |aE=>simp[l8]at d
theorem IQ{w:dk}{aa aD ag:Nat->Prop}{β:Bd}{H0 H:Heap}:∀{l:List AV}{vs:List PV}{bs:List Nat}{d:List da},nN H0 l=some (vs,bs)->(∀b∈bs,H[b]?=H0[b]?)->bX P w aa β H ag->bh P w aa β H l d->
 (∀k,aa k->aD k)->(∀b∈bs,aD (β.ak b))->bf P w aD vs d
 |[],vs,bs,d,h,_,_,c,_,_=>by
  simp[nN]at h;obtain⟨rfl,rfl⟩:=h;simp only[bh]at c;simpa[bf]using c
 |a::l,vs,bs,d,h,aj,f,c,hi,e=>by
  simp only[nN]at h
  split at h
  case h_2=>simp at h
  rename_i v m o n g i;simp at h;obtain⟨rfl,rfl⟩:=h;simp only[bh]at c;obtain⟨y,j,rfl,k1,k2⟩:=c;simp only[bf];exact⟨y,j,rfl,V7 g (fun b hx=>aj b (by simp[hx])) f k1 hi (fun b hx=>e b (by simp[hx])),IQ i (fun b hx=>aj b (by simp[hx])) f k2 hi (fun b hx=>e b (by simp[hx]))⟩
def Act(P:c9)(n:Nat)(o:Oper)(s:St)(e:aU):Prop:=
 ∀(fr:ee)(k:List Item)(cs:List ee)(a:Array Oper)(i:Nat)(r:List Nat)(b:List ej)(ag aa:Nat->Prop)(β:Bd)(s':St)(t:Array da)(w:dk),
  a[i]?=some o->hw o (yielded a t)=true->iW n o=true->cL P n ag aa β s' t w->(∀x∈o.op.operands,ev s'.env x=ev s.env x)->
  (∀p∈e.aj,s'.heap[p.1]?=some p.2)->(∀j,j<e.aS.length->s'.heap[s.heap.length+j]?=some .hole)->
  ∃aD aI c w',ez P (lone (bt fr t b (.inRegion a (i::r)::k)) cs w) (lone (bt fr c b (.inRegion a r::k)) cs w')/\
   cL P n ag aD aI ⟨put o.dst e.v s'.env,aX s'.heap (e.aG++newAt s.heap.length e.aS)⟩ c w'/\∀N,dI N ag aa w β s'.heap ag aD w' aI (aX s'.heap (e.aG++newAt s.heap.length e.aS))
theorem Sv{o:Oper}{K:aU->Prop}{s:St}(h:jq P ah o s K)(c:Call):o.op≠.defer c:=by
 intro hc;unfold jq at h;rw[hc]at h;simp[fy,hc]at h
theorem MF{e e':Env}{l:List c7}(h:∀x∈l,ev e' x=ev e x):l.map (ev e')=l.map (ev e):=j1 h
theorem J3{o:Oper}{f:c7}{H:Array c7}{al:Array c8}{g:dg}{fi ca:List AV}{K:aU->Prop}{s:St}
 (W:o.op=.call {callee:=.value f,args:=H,argTypes:=al})
 (hf:(ev s.env f=.func g fi ca)\/(∃a b,ev s.env f=.p (.func g a b)/\fi=a.map .p/\ca=b.map .p))
 (h:gT P g (fi++H.toList.map (ev s.env)++ca) s.heap K):
 ∃e,K e/\(∀p∈e.aj,s.heap[p.1]?=some p.2)/\(∀p∈e.aG,p.1<s.heap.length/\p.2≠.hole)/\Act P n o s e:=by
 have Q:∀c,o.op≠.defer c:=fun c hc=>by rw[W]at hc;cases hc
 have ac:f∈o.op.operands/\∀x∈H.toList,x∈o.op.operands:=by
  rw[W];simp[hh,gj];exact fun x hx=>.inr hx
 have M:∀{ag aa:Nat->Prop}{β:Bd}{s':St}{t:Array da}{w:dk},cL P n ag aa β s' t w->(∀x∈o.op.operands,ev s'.env x=ev s.env x)->
  ∃m:List da,bh P w aa β s'.heap (fi++H.toList.map (ev s.env)++ca) m/\aR (aH s'.heap) (fi++H.toList.map (ev s.env)++ca)/\(db (fA t) o).run P w=(callFunc g m.toArray).run P w:=by
  intro ag aa β s' t w d A;have I:=nI d f;rw[A f ac.1]at I;obtain⟨G,F,aw,av,aq,aE,aC⟩:∃G F:List da,fA t f=.func (.func g) G.toArray F.toArray/\bh P w aa β s'.heap fi G/\bh P w aa β s'.heap ca F/\aR (aH s'.heap) fi/\aR (aH s'.heap) ca:=by
   rcases hf with hf|⟨a,b,hf,rfl,rfl⟩
   ·rw[hf]at I;simp only[ar,aB]at I;obtain⟨⟨G,F,y,z,D⟩,S,ao⟩:=I;exact⟨G,F,D,y,z,S,ao⟩
   ·rw[hf]at I;simp only[ar,aA]at I;obtain⟨⟨G,F,y,z,D⟩,_⟩:=I;exact⟨G,F,D,jB.2 y,jB.2 z,iR _ _,iR _ _⟩
  obtain⟨Y,Z⟩:=uw d H.toList;rw[MF (fun x hx=>A x (ac.2 x hx))]at Y Z;refine⟨G++H.toList.map (fA t)++F,ow (ow av Y) aq,jJ (jJ aE Z) aC,?_⟩;simp only[db,W,resolve,aw,Deferred.ofValue,hE,hF,hC,invoke];congr 2;simp
 have ai:∀(fr:ee)(k:List Item)(cs:List ee)(l:Array Oper)(i:Nat)(r:List Nat)(u:List ej)(ag aa E:Nat->Prop)(β:Bd)(s':St)(t:Array da)(w:dk)(H1:Heap)(m:List da)(vs:List PV)(v:PV),
  l[i]?=some o->hw o (yielded l t)=true->iW n o=true->cL P n ag aa β s' t w->(db (fA t) o).run P w=(callFunc g m.toArray).run P w->
  bV P ag aa w β s'.heap E w β H1->bf P w E vs m->az P g vs v->
  ∃aD aI ak w',ez P (lone (bt fr t u (.inRegion l (i::r)::k)) cs w) (lone (bt fr ak u (.inRegion l r::k)) cs w')/\
   cL P n ag aD aI ⟨put o.dst (.p v) s'.env,H1⟩ ak w'/\∀N,dI N ag aa w β s'.heap ag aD w' aI H1:=by
  intro fr k cs l i r u ag aa E β s' t w H1 m vs v q C B d O j af L;rcases L with⟨au,L⟩|L
  ·rw[au]at O;obtain⟨e,w',am,⟨R,aD,U,g1,g2,g3,g4,g5,an,g6⟩,aJ,ax,V⟩:=L w E _ j.rel.bR j.rel.ja af (bt fr t u (.inRegion l (i::r)::k)::cs);subst U;have ae:=j.trans (j.rel.later g1 g2 g3 g4 g5 an);refine⟨aD,β,_,w',?_,d.put B ae (by simpa[ar]using g6) (by simp[aB]),fun _=>ae.fe⟩;rw[<-mX q];exact(hH (ui q C Q O)).trans (hK aJ (.one (en V)))
  ·obtain⟨R,y,z⟩:=L w E _ af;rw[y]at O;exact⟨E,β,_,w,.one (rS q C Q O (.inl rfl)),d.put B j (by simpa[ar]using z) (by simp[aB]),fun _=>j.fe⟩
 rcases h with⟨vs,v,y,z,D⟩|⟨vs,bs,aj,aG,v,y,z,D,S⟩|⟨e,X,ad,T⟩|⟨aj,v,ap,ay,T⟩
 ·refine⟨_,D,s_,s_,?_⟩;intro fr k cs l i r u ag aa β s' t w q C B d A _ _;obtain⟨m,c1,c2,c3⟩:=M d A;rw[y]at c1;simp only[newAt,hW,aX];exact ai fr k cs l i r u ag aa aa β s' t w s'.heap m vs v q C B d c3 (bV.refl d.heap) (jB.1 c1) z
 ·obtain⟨i1,i2,i3⟩:=Ja bs z;refine⟨_,S,i1,i2,?_⟩;intro fr k cs l i r u ag aa β s' t w q C B d A J _;obtain⟨m,c1,c2,c3⟩:=M d A;obtain⟨E,ah,aF⟩:=Hq bs z d.heap (fun p j=>⟨p.2,J p j,rfl⟩);simp only[newAt,hW];refine ai fr k cs l i r u ag aa E β s' t w _ m vs v q C B d c3 ah (IQ y ?_ d.heap c1 ah.bR aF) D;intro b ab;rw[<-i3]at ab;obtain⟨p,j,rfl⟩:=km.1 ab;rw[J p j,i1 p j]
 ·refine⟨_,T,ad.1,ad.2,?_⟩;intro fr k cs l i r u ag aa β s' t w q C B d A J aS;obtain⟨m,c1,c2,c3⟩:=M d A;rw[X.1]at c3;obtain⟨x,w',am,⟨R,aI,aD,U,g1,g2,g3⟩,aJ,ax,V⟩:=X.2 s'.heap w aa ag β _ d.heap c1 c2 J aS (bt fr t u (.inRegion l (i::r)::k)::cs);subst U;refine⟨aD,aI,_,w',?_,d.put B g1 g2 g3,fun _=>g1.fe⟩;rw[<-mX q];exact(hH (ui q C Q c3)).trans (hK aJ (.one (en V)))
 ·refine⟨_,T,ay,s_,?_⟩;intro fr k cs l i r u ag aa β s' t w q C B d A J aS;obtain⟨m,c1,c2,c3⟩:=M d A;obtain⟨R,y,D⟩:=ap s'.heap w aa ag β _ d.heap c1 c2 J;rw[y]at c3;have j:=bV.refl d.heap;simp only[newAt,hW,aX];exact⟨aa,β,_,w,.one (rS q C Q c3 (.inl rfl)),d.put B j (by simpa[ar]using D) (by simp[aB]),fun _=>j.fe⟩
theorem Ue{o:Oper}{f:c7}{a:Array c7}{y:Array c8}{b:Nat}{e:aU}{s:St}
 (j:o.op=.call {callee:=.value f,args:=a,argTypes:=y})(hf:ev s.env f=.map b)(hY:sP P b (a.toList.map (ev s.env)) s.heap.length e):Act P n o s e:=by
 have G:∀c,o.op≠.defer c:=fun c hc=>by rw[j]at hc;cases hc
 have u:f∈o.op.operands/\∀x∈a.toList,x∈o.op.operands:=by
  rw[j];simp[hh,gj];exact fun x hx=>.inr hx
 intro fr k cs I i r z ag aa β s' t w v H C d m E aS;have h:=(nI d f).1;rw[m f u.1,hf]at h;simp only[ar,bH,bP]at h;obtain⟨l,p⟩:=uw d a.toList;rw[MF (fun x hx=>m x (u.2 x hx))]at l p;obtain⟨F,g,tmps,assign,body,A,B⟩:=hY s'.heap w aa ag β _ d.heap l p E aS;have D:=h.2.2 F;have q:(db (fA t) o).run P w=(Instr.yield (β.ak b) (a.toList.map (fA t)).toArray).run P w:=by
  simp only[db,j,resolve,D,Deferred.ofValue,hE,hF,hC,invoke];congr 2;exact b4 s_
 rw[A]at q;obtain⟨J,w',aI,aD,g1,g2,g3,g4⟩:=B (bt fr t z (.inRegion I (i::r)::k)) cs;refine⟨aD,aI,_,w',?_,d.put C g2 g3 g4,fun _=>g2.fe⟩;rw[<-mX v];exact(hH (HT v H G q)).trans g1
theorem U8(m:ly P ah){o:Oper}{K:aU->Prop}{s:St}(h:jq P ah o s K):
 ∃e,K e/\(∀p∈e.aj,s.heap[p.1]?=some p.2)/\(∀p∈e.aG,p.1<s.heap.length/\p.2≠.hole)/\Act P n o s e:=by
 have E:=Sv h;have q:fy P ah o (ev s.env) s.heap K->∃e,K e/\(∀p∈e.aj,s.heap[p.1]?=some p.2)/\(∀p∈e.aG,p.1<s.heap.length/\p.2≠.hole)/\Act P n o s e:=by
  intro h;obtain⟨e,a,hs,aj,aG⟩:=m o _ _ _ (fun v=>rfl) h;refine⟨e,a,aj,aG,?_⟩;intro fr k cs L i r J ag aa β s' t w F G C d B D aS;obtain⟨nx,I,w',aI,aD,u,y,j,z,A⟩:=hs s'.heap w aa ag β (fA t) d.heap (fun x hx=>by rw[<-B x hx];exact nI d x) D aS;exact⟨aD,aI,_,w',.one (rS F G E u y),d.put C j z A,fun _=>j.fe⟩
 unfold jq at h
 split at h
 ·rename_i f args H c
  split at h
  ·rename_i g fi ca hf;exact J3 c (.inr ⟨fi,ca,hf,rfl,rfl⟩) h
  ·rename_i g fi ca hf;exact J3 c (.inl hf) h
  ·rename_i b hf;obtain⟨e,hY,l,a⟩:=h;exact⟨e,a,l.1,l.2,Ue c hf hY⟩
  ·exact h.elim
 ·exact q h
end
section
variable{P:c9}{ah:dg->Bool}{n:Nat}
def looks(a:Array Oper)(o:Oper):List Tmp:=
 (o.op.operands.toList.filterMap fun x=>match x with
  | .tmp t=>some t
  |_=>none)++(match o.guard with
  |some (j,_)=>(match(a[j]?).bind (·.dst)with
   |some d=>[d]
   |none=>[])
  |none=>[])
def pS(c:Array Oper)(a b:Oper):Bool:=
 (match a.dst with
  |some d=>(looks c b).contains d||b.dst==some d
  |none=>false)||
 (match b.dst with
  |some d=>(looks c a).contains d
  |none=>false)
def fit(_:Nat)(a:Array Oper):Bool:=
 (i5 a.size).all fun j=>match a[j]? with
  |some o=>o.after.toList.all (fun e=>!hz .any e||decide (e.on<j))&&
   (i5 j).all (fun i=>match a[i]? with
    |some u=>!pS a u o||reach a a.size i j
    |none=>true)
  |none=>true
structure CS(P:c9)(n:Nat)(ops:Array Oper)(o:Oper)(s:St)(e:aU):Prop where
 aj:∀p∈e.aj,s.heap[p.1]?=some p.2
 aG:∀p∈e.aG,p.1<s.heap.length
 act:(∀(t:Array da)(s':St)(ag aa:Nat->Prop)(β:Bd)(w:dk),cL P n ag aa β s' t w->(∀x∈looks ops o,aO s'.env x=aO s.env x)->hw o (yielded ops t)=true)/\Act P n o s e\/
  (∀(t:Array da)(s':St)(ag aa:Nat->Prop)(β:Bd)(w:dk),cL P n ag aa β s' t w->(∀x∈looks ops o,aO s'.env x=aO s.env x)->hw o (yielded ops t)=false)/\e={v:=.p (.aE [])}
inductive Tr(P:c9)(n:Nat)(ops:Array Oper):List Oper->Nat->St->List (St×aU)->St->Prop
 |nil (i:Nat) (s:St):Tr P n ops [] i s [] s
 |cons {o:Oper} {r:List Oper} {i:Nat} {s s':St} {e:aU} {es:List (St×aU)}:CS P n ops o s e->Tr P n ops r (i+1) (e.app o.dst s) es s'->Tr P n ops (o::r) i s ((s,e)::es) s'
def oL(i:Nat):List (St×aU)->List Touch->List Touch
 |[],acc=>acc
 |(s,e)::r,acc=>oL (i+1) r (gO i s.heap.length e acc)
theorem Aw{a:Array Oper}{o:Oper}{j:Nat}{f:Bool}(c:o.guard=some (j,f)){e e':Env}(h:∀x∈looks a o,aO e' x=aO e x):guardOf a j e'=guardOf a j e:=by
 unfold guardOf;cases b:(a[j]?).bind (·.dst)with
 |none=>rfl
 |some d=>
  simp only;exact h d (by simp[looks,c,b])
theorem Jv(B:ly P ah){a:Array Oper}(q:∀o∈a.toList,iW n o=true):∀(l:List Oper)(i:Nat)(d:List Touch)(s:St){K:St->Prop},(∀o∈l,o∈a.toList)->gh P ah a l i d K s->
 ∃c s',Tr P n a l i s c s'/\K s'/\jZ a (oL i c d)=true
 |[],i,d,s,K,_,h=>⟨[],s,.nil i s,h.2,h.1⟩
 |o::l,i,d,s,K,hl,h=>by
  have C:=fun d s(h:gh P ah a l (i+1) d K s)=>Jv B q l (i+1) d s (fun o F=>hl o (by simp[F])) h
  have skip:gh P ah a l (i+1) d K ⟨put o.dst (.p (.aE [])) s.env,s.heap⟩->(∀(t:Array da)(s':St)(ag aa:Nat->Prop)(β:Bd)(w:dk),cL P n ag aa β s' t w->(∀x∈looks a o,aO s'.env x=aO s.env x)->hw o (yielded a t)=false)->
   ∃c s',Tr P n a (o::l) i s c s'/\K s'/\jZ a (oL i c d)=true:=by
   intro hk A;obtain⟨c,s',r,u,y⟩:=C _ _ hk;refine⟨(s,{v:=.p (.aE [])})::c,s',.cons ⟨s_,s_,.inr ⟨A,rfl⟩⟩ ?_,u,by simpa[oL,gO]using y⟩;simpa[aU.app,aX]using r
  have go:jq P ah o s (fun e=>gh P ah a l (i+1) (gO i s.heap.length e d) K (e.app o.dst s))->(∀(t:Array da)(s':St)(ag aa:Nat->Prop)(β:Bd)(w:dk),cL P n ag aa β s' t w->(∀x∈looks a o,aO s'.env x=aO s.env x)->hw o (yielded a t)=true)->
   ∃c s',Tr P n a (o::l) i s c s'/\K s'/\jZ a (oL i c d)=true:=by
   intro hk A;obtain⟨e,D,aj,aG,E⟩:=U8 (n:=n) B hk;obtain⟨c,s',r,u,y⟩:=C _ _ D;exact⟨(s,e)::c,s',.cons ⟨aj,fun p G=>(aG p G).1,.inl ⟨A,E⟩⟩ r,u,by simpa[oL]using y⟩
  simp only[gh]at h
  split at h
  ·rename_i f;exact go h (fun _ _ _ _ _ _ _ _=>by simp[hw,f])
  ·rename_i j H f
   split at h
   ·rename_i b m
    split at h
    ·rename_i z;refine go h (fun t s' ag aa β w k g=>?_);obtain⟨g1,g2⟩:=xl k q j;rw[Aw f g]at g1;simp[hw,f,g1 _ m,z]
    ·rename_i z;refine skip h (fun t s' ag aa β w k g=>?_);obtain⟨g1,g2⟩:=xl k q j;rw[Aw f g]at g1;simp[hw,f,g1 _ m,z]
   ·rename_i m;refine skip h (fun t s' ag aa β w k g=>?_);obtain⟨g1,g2⟩:=xl k q j;rw[Aw f g]at g2;simp[hw,f,g2 m]
   ·exact h.elim
def vg(a:Array Oper)(D:Nat->Prop):Prop:=∀j o,a[j]?=some o->D j->∀e∈o.after,hz .any e=true->D e.on
theorem AL{c:Array Oper}{D:Nat->Prop}(hc:vg c D):∀(f i j:Nat),reach c f i j=true->(∀o,c[j]?=some o->∀e∈o.after,hz .any e=true->D e.on)->D i
 |0,_,_,h,_=>by simp[reach]at h
 |f+1,i,j,h,d=>by
  simp only[reach]at h
  split at h
  case h_2=>simp at h
  rename_i o g;simp only[cN,ik,cE,beq_iff_eq,decide_eq_true_eq]at h;rcases h with⟨e,b,a,rfl⟩|⟨e,b,⟨a,_⟩,k⟩
  ·exact d o g e (by simpa using b) a
  ·have m:=d o g e (by simpa using b) a;exact AL hc f i e.on k (fun o' p e' n l=>hc _ o' p m e' n l)
end
section
variable{P:c9}{ah:dg->Bool}{n:Nat}
theorem rZ(a:Nat)(l:List Obj):(newAt a l).map (·.1)=nD a l:=by
 induction l generalizing a with
 |nil=>rfl
 |cons o l b=>simp[newAt,nD,b]
theorem GW{a b:Nat}{l:List Obj}:b∈nD a l↔a<=b/\b<a+l.length:=by
 induction l generalizing a with
 |nil=>simp[nD]
 |cons o l c=>simp only[nD,hX,c,List.length_cons];omega
theorem xy{l:List (Nat×Obj)}{b:Nat}(h:b∉l.map (·.1)):∀H:Heap,(aX H l)[b]?=H[b]?:=by
 induction l with
 |nil=>intro H;rfl
 |cons p l a=>
  obtain⟨c,o⟩:=p;intro H;simp only[hV,hX,not_or]at h;simp only[aX];rw[a h.2,h3 (ln h.1)]
theorem TN{l:List (Nat×Obj)}{b:Nat}(h:b∈l.map (·.1)):∀H H':Heap,H.length=H'.length->(aX H l)[b]?=(aX H' l)[b]?:=by
 induction l with
 |nil=>simp at h
 |cons p l e=>
  obtain⟨c,o⟩:=p;intro H H' hl;simp only[aX]
  by_cases a:b∈l.map (·.1)
  ·exact e a _ _ (by simp[hl])
  ·rw[xy a,xy a];simp only[hV,hX]at h;have:b=c:=h.resolve_right a;subst this
   by_cases d:b<H.length
   ·rw[hS d,hS o_]
   ·rw[i9 (by simp;omega),i9 (by simp;omega)]
def de(es:List (St×aU))(s':St)(k:Nat):St:=match es[k]? with
 |some (s,_)=>s
 |none=>s'
def fB(es:List (St×aU))(k:Nat):aU:=match es[k]? with
 |some (_,e)=>e
 |none=>{v:=.p .undef}
theorem Tr.at{a:Array Oper}:∀{l:List Oper}{i:Nat}{s s':St}{es:List (St×aU)},Tr P n a l i s es s'->es.length=l.length/\de es s' 0=s/\
 ∀k o,l[k]?=some o->CS P n a o (de es s' k) (fB es k)/\de es s' (k+1)=(fB es k).app o.dst (de es s' k)
 |_,_,_,_,_,.nil i s=>⟨rfl,rfl,fun k o h=>by simp at h⟩
 |_,_,_,_,_,.cons (o:=o) (r:=r) (i:=i) (s:=s) (s':=s') (e:=e) (es:=es) hi d=>by
  obtain⟨h1,b,c⟩:=d.at;refine⟨by simp[h1],rfl,fun k o' hk=>?_⟩;cases k with
  |zero=>
   simp at hk;subst hk;refine⟨by simpa[de,fB]using hi,?_⟩;have:de ((s,e)::es) s' (0+1)=de es s' 0:=by simp[de]
   rw[this,b];simp[de,fB]
  |succ k=>
   have e1:∀m,de ((s,e)::es) s' (m+1)=de es s' m:=fun m=>by simp[de]
   have e2:fB ((s,e)::es) (k+1)=fB es k:=by simp[fB]
   rw[e1,e1,e2];exact c k o' (by simpa using hk)
theorem SF(u:Touch)(i:Nat):jj u ⟨i,[],[]⟩=false:=by
 simp[jj]
theorem Sk(i b:Nat)(e:aU)(a:List Touch):(gO i b e a=a/\gZ i b e=⟨i,[],[]⟩)\/gO i b e a=gZ i b e::a:=by
 unfold gO
 split
 ·rename_i c d f;exact .inl ⟨rfl,by simp[gZ,c,d,f,nD]⟩
 ·exact .inr rfl
theorem HR{c:Array Oper}:∀(g:List (St×aU))(i:Nat)(d:List Touch),jZ c (oL i g d)=true->jZ c d=true/\
 (∀u∈d,∀b s e,g[b]?=some (s,e)->jj u (gZ (i+b) s.heap.length e)=true->reach c c.size u.i (i+b)=true)/\
 (∀a b s e f e2,a<b->g[a]?=some (s,e)->g[b]?=some (f,e2)->jj (gZ (i+a) s.heap.length e) (gZ (i+b) f.heap.length e2)=true->reach c c.size (i+a) (i+b)=true)
 |[],i,d,h=>⟨h,s_,s_⟩
 |(s,e)::g,i,d,h=>by
  simp only[oL]at h;obtain⟨j,m,r⟩:=HR g (i+1) _ h
  have key:jZ c d=true/\(∀u∈d,jj u (gZ i s.heap.length e)=true->reach c c.size u.i i=true)/\(∀u∈d,∀b s e,g[b]?=some (s,e)->jj u (gZ (i+1+b) s.heap.length e)=true->reach c c.size u.i (i+1+b)=true)/\
   (∀b f e2,g[b]?=some (f,e2)->jj (gZ i s.heap.length e) (gZ (i+1+b) f.heap.length e2)=true->reach c c.size i (i+1+b)=true):=by
   rcases Sk i s.heap.length e d with⟨o,q⟩|o
   ·rw[o]at j m;refine⟨j,fun u _ hc=>?_,m,fun b f e2 _ hc=>?_⟩
    ·rw[q,SF]at hc;cases hc
    ·rw[q]at hc;simp[jj]at hc
   ·rw[o]at j m;simp only[jZ,cE,h8]at j;refine⟨j.2,fun u l hc=>?_,fun u l=>m u (by simp[l]),m _ s_⟩;have:=j.1 u l;rw[hc]at this;exact(by simpa using this:reach c c.size u.i (gZ i s.heap.length e).i=true)
  obtain⟨k1,k2,k3,k4⟩:=key;refine⟨k1,?_,?_⟩
  ·intro u l b p e1 k hc;cases b with
   |zero=>simp at k;obtain⟨rfl,rfl⟩:=k;exact k2 u l hc
   |succ b=>
    have:=k3 u l b p e1 (by simpa using k);rw[show i+(b+1)=i+1+b by omega]at hc⊢;exact this hc
  ·intro a b p e1 f e2 t n k hc;cases b with
   |zero=>omega
   |succ b=>
    rw[show i+(b+1)=i+1+b by omega]at hc⊢;cases a with
    |zero=>
     simp at n;obtain⟨rfl,rfl⟩:=n;exact k4 b f e2 (by simpa using k) hc
    |succ a=>
     rw[show i+(a+1)=i+1+a by omega]at hc⊢;exact r a b p e1 f e2 o_ (by simpa using n) (by simpa using k) hc
end
section
variable{P:c9}{ah:dg->Bool}{n:Nat}
def hx(N:Nat)(s:St):Heap:=s.heap++hU (N-s.heap.length) .hole
def tN(a:Nat)(e:aU):List Nat:=(e.aG++newAt a e.aS).map (·.1)
theorem YR{N:Nat}{s:St}{e:aU}{o:Oper}(aG:∀p∈e.aG,p.1<s.heap.length)(c:(e.app o.dst s).heap.length<=N):hx N (e.app o.dst s)=aX (hx N s) (e.aG++newAt s.heap.length e.aS):=by
 have hl:(e.app o.dst s).heap=aX s.heap e.aG++e.aS:=rfl;have d:(e.app o.dst s).heap.length=s.heap.length+e.aS.length:=by rw[hl];simp[om]
 unfold hx;rw[hl];have b:N-s.heap.length=e.aS.length+(N-(s.heap.length+e.aS.length)):=o_
 rw[b,<-List.replicate_append_replicate,<-ih,wW _ _ _ (by
  intro p a;rcases i8.1 a with a|a
  ·have:=aG p a;simp;omega
  ·have:p.1∈(newAt s.heap.length e.aS).map (·.1):=j8 a
   rw[rZ,GW]at this;simp;omega)]
 rw[As,wW _ _ _ aG];have:=AJ (aX s.heap e.aG) e.aS;rw[om]at this;rw[this];congr 2;simp[om]
section sched
variable{ops:Array Oper}{es:List (St×aU)}{s0 s':St}
structure iX(P:c9)(n:Nat)(ops:Array Oper)(es:List (St×aU))(s':St):Prop where
 len:es.length=ops.size
 at_:∀k o,ops[k]?=some o->CS P n ops o (de es s' k) (fB es k)/\de es s' (k+1)=(fB es k).app o.dst (de es s' k)
 dst:∀o∈ops.toList,iW n o=true
 lower:∀j o,ops[j]?=some o->∀e∈o.after,hz .any e=true->e.on<j
 tmps:∀i j u o,i<j->ops[i]?=some u->ops[j]?=some o->pS ops u o=true->reach ops ops.size i j=true
 heap:∀i j,i<j->j<ops.size->jj (gZ i (de es s' i).heap.length (fB es i)) (gZ j (de es s' j).heap.length (fB es j))=true->reach ops ops.size i j=true
def wr(a:List (St×aU))(s':St)(i:Nat):List Nat:=tN (de a s' i).heap.length (fB a i)
structure At(ops:Array Oper)(es:List (St×aU))(s':St)(D:Nat->Prop)(s:St):Prop where
 tmp:∀x,∃k,k<=ops.size/\aO s.env x=aO (de es s' k).env x/\∀i o,ops[i]?=some o->o.dst=some x->(D i↔i<k)
 len:s.heap.length=s'.heap.length
 heap:∀b,∃k,k<=ops.size/\s.heap[b]?=(hx s'.heap.length (de es s' k))[b]?/\∀i,i<ops.size->b∈wr es s' i->(D i↔i<k)
variable(h:iX P n ops es s')
include h
theorem iX.mono:∀{k m:Nat},k<=m->m<=ops.size->(de es s' k).heap.length<=(de es s' m).heap.length:=by
 intro k m e f
 induction m with
 |zero=>
  obtain rfl:k=0:=o_
  exact kp _
 |succ m c=>
  by_cases hk:k=m+1
  ·subst hk;exact kp _
  ·have d:=c o_ o_;have b:ops[m]?=some ops[m]:=b3 o_;obtain⟨_,a⟩:=h.at_ m _ b;rw[a];simp only[aU.app,hT,om];omega
theorem iX.last:de es s' ops.size=s':=by
 have:es[ops.size]?=none:=i9 (by rw[h.len];exact kp _);simp[de,this]
theorem iX.vH{k:Nat}(hk:k<=ops.size):(de es s' k).heap.length<=s'.heap.length:=by
 have:=h.mono hk (kp _)
 rwa [h.last]at this
theorem iX.gR{k:Nat}(hk:k<ops.size):hx s'.heap.length (de es s' (k+1))=aX (hx s'.heap.length (de es s' k)) ((fB es k).aG++newAt (de es s' k).heap.length (fB es k).aS):=by
 have c:ops[k]?=some ops[k]:=b3 hk;obtain⟨h1,b⟩:=h.at_ k _ c;have a:=h.vH (k:=k+1) hk;rw[b]at a⊢;exact YR h1.aG a
theorem YQ{k:Nat}(hk:k<=ops.size):(hx s'.heap.length (de es s' k)).length=s'.heap.length:=by
 have:=h.vH hk;simp[hx];omega
theorem iX.Jw{x:Nat}:∀{k m:Nat},k<=m->m<=ops.size->(∀i o,k<=i->i<m->ops[i]?=some o->o.dst≠some x)->aO (de es s' m).env x=aO (de es s' k).env x:=by
 intro k m j
 induction m with
 |zero=>
  intro _ _;obtain rfl:k=0:=o_
  rfl
 |succ m g=>
  intro l d
  by_cases hk:k=m+1
  ·subst hk;rfl
  ·have e:=g o_ o_ (fun i o a b=>d i o a o_);have c:ops[m]?=some ops[m]:=b3 o_;obtain⟨_,f⟩:=h.at_ m _ c;rw[f];simp only[aU.app,uu];rw[if_neg (d m _ o_ o_ c)];exact e
theorem iX.I5{b:Nat}:∀{k m:Nat},k<=m->m<=ops.size->(∀i,k<=i->i<m->b∉wr es s' i)->(hx s'.heap.length (de es s' m))[b]?=(hx s'.heap.length (de es s' k))[b]?:=by
 intro k m f
 induction m with
 |zero=>
  intro _ _;obtain rfl:k=0:=o_
  rfl
 |succ m e=>
  intro g c
  by_cases hk:k=m+1
  ·subst hk;rfl
  ·have d:=e o_ o_ (fun i a b=>c i a o_);rw[h.gR o_,xy (c m o_ o_)];exact d
theorem iX.KG{x:Nat}{k m:Nat}(hk:k<=ops.size)(g:m<=ops.size)(f:∀i o,ops[i]?=some o->o.dst=some x->(i<k↔i<m)):aO (de es s' m).env x=aO (de es s' k).env x:=by
 rcases lm k m with d|d
 ·exact h.Jw d g fun i o a b e c=>by have:=f i o e c;omega
 ·exact(h.Jw d hk fun i o a b e c=>by have:=f i o e c;omega).symm
theorem iX.Kr{b:Nat}{k m:Nat}(hk:k<=ops.size)(g:m<=ops.size)(f:∀i,i<ops.size->b∈wr es s' i->(i<k↔i<m)):(hx s'.heap.length (de es s' m))[b]?=(hx s'.heap.length (de es s' k))[b]?:=by
 rcases lm k m with e|e
 ·exact h.I5 e g fun i a c d=>by have:=f i o_ d;omega
 ·exact(h.I5 e hk fun i a c d=>by have:=f i o_ d;omega).symm
variable{D:Nat->Prop}(hc:vg ops D)
include hc
theorem iX.order{i:Nat}{o:Oper}(k:ops[i]?=some o)(h:¬D i)(l:∀e∈o.after,hz .any e=true->D e.on):
 (∀j,j<i->reach ops ops.size j i=true->D j)/\(∀j,j<ops.size->i<j->reach ops ops.size i j=true->¬D j):=by
 constructor
 ·intro j g b;exact AL hc _ _ _ b (fun o' a=>by rw[k]at a;cases a;exact l)
 ·intro j m g b d;exact h (AL hc _ _ _ b (fun o' a e f c=>hc j o' a d e f c))
theorem iX.reads{i:Nat}{o:Oper}(l:ops[i]?=some o)(q:¬D i)(y:∀e∈o.after,hz .any e=true->D e.on){s:St}(t:At ops es s' D s):
 (∀x∈looks ops o,aO s.env x=aO (de es s' i).env x)/\(∀b,b∈(fB es i).aj.map (·.1)\/b∈wr es s' i->s.heap[b]?=(hx s'.heap.length (de es s' i))[b]?):=by
 obtain⟨v,w⟩:=h.order hc l q y;have hi:i<ops.size:=(b2.1 l).1;constructor
 ·intro x hx;obtain⟨k,k1,k2,k3⟩:=t.tmp x;rw[k2];refine h.KG o_ k1 fun j u m p=>?_;have g:j<ops.size:=(b2.1 m).1;rw[<-k3 j u m p];constructor
  ·intro a;refine v j a (h.tmps j i u o a m l ?_);simp[pS,p,hx]
  ·intro f;rcases kv j i with a|rfl|a
   ·exact a
   ·exact(q f).elim
   ·exact(w j g a (h.tmps i j o u a l m (by simp[pS,p,hx])) f).elim
 ·intro b c;obtain⟨k,k1,k2,k3⟩:=t.heap b;rw[k2];refine h.Kr o_ k1 fun j g n=>?_;rw[<-k3 j g n];have r:b∈(gZ j (de es s' j).heap.length (fB es j)).wr:=by
   unfold wr tN at n;rw[h5,rZ]at n;exact n
  have d:b∈(gZ i (de es s' i).heap.length (fB es i)).rd\/b∈(gZ i (de es s' i).heap.length (fB es i)).wr:=by
   rcases c with c|c
   ·exact .inl c
   ·unfold wr tN at c;rw[h5,rZ]at c;exact .inr c
  constructor
  ·intro a;refine v j a (h.heap j i a hi ?_);simp only[jj,cN,ik,ii];exact .inl ⟨b,r,d⟩
  ·intro f;rcases kv j i with a|rfl|a
   ·exact a
   ·exact(q f).elim
   ·refine(w j g a (h.heap i j a g ?_) f).elim;simp only[jj,cN,ik,ii];rcases d with d|d
    ·exact .inr ⟨b,d,r⟩
    ·exact .inl ⟨b,d,.inr r⟩
theorem iX.next{i:Nat}{o:Oper}(l:ops[i]?=some o)(z:¬D i)(A:∀e∈o.after,hz .any e=true->D e.on){s:St}(p:At ops es s' D s):
 At ops es s' (fun j=>D j\/j=i) ⟨put o.dst (fB es i).v s.env,aX s.heap ((fB es i).aG++newAt (de es s' i).heap.length (fB es i).aS)⟩:=by
 obtain⟨w,y⟩:=h.order hc l z A;have hi:i<ops.size:=(b2.1 l).1;obtain⟨B,gR⟩:=h.at_ i o l;refine⟨fun x=>?_,by simp only[om];exact p.len,fun b=>?_⟩
 ·by_cases hx:o.dst=some x
  ·refine⟨i+1,hi,?_,fun j u d n=>?_⟩
   ·rw[gR];simp[aU.app,uu,hx]
   ·have g:j<ops.size:=(b2.1 d).1;constructor
    ·rintro(c|rfl)
     ·rcases kv j i with a|rfl|a
      ·omega
      ·omega
      ·exact(y j g a (h.tmps i j o u a l d (by simp[pS,n,hx])) c).elim
     ·omega
    ·intro a
     by_cases q:j=i
     ·exact .inr q
     ·exact .inl (w j o_ (h.tmps j i u o o_ d l (by simp[pS,n,hx])))
  ·obtain⟨k,k1,k2,k3⟩:=p.tmp x;refine⟨k,k1,?_,fun j u d n=>?_⟩
   ·simp only[uu];rw[if_neg hx];exact k2
   ·rw[<-k3 j u d n];constructor
    ·rintro(c|rfl)
     ·exact c
     ·rw[l]at d;cases d;exact(hx n).elim
    ·exact .inl
 ·by_cases f:b∈wr es s' i
  ·refine⟨i+1,hi,?_,fun j g m=>?_⟩
   ·rw[h.gR hi];exact TN f _ _ (by rw[YQ h o_];exact p.len)
   ·have t:b∈(gZ j (de es s' j).heap.length (fB es j)).wr:=by
     unfold wr tN at m;rw[h5,rZ]at m;exact m
    have r:b∈(gZ i (de es s' i).heap.length (fB es i)).wr:=by
     unfold wr tN at f;rw[h5,rZ]at f;exact f
    constructor
    ·rintro(c|rfl)
     ·rcases kv j i with a|rfl|a
      ·omega
      ·omega
      ·refine(y j g a (h.heap i j a g ?_) c).elim;simp only[jj,cN,ik,ii];exact .inl ⟨b,r,.inr t⟩
     ·omega
    ·intro a
     by_cases q:j=i
     ·exact .inr q
     ·refine .inl (w j o_ (h.heap j i o_ hi ?_));simp only[jj,cN,ik,ii];exact .inl ⟨b,t,.inr r⟩
  ·obtain⟨k,k1,k2,k3⟩:=p.heap b;refine⟨k,k1,?_,fun j g m=>?_⟩
   ·simp only;rw[xy f];exact k2
   ·rw[<-k3 j g m];constructor
    ·rintro(c|rfl)
     ·exact c
     ·exact(f m).elim
    ·exact .inl
end sched
end
section
variable{P:c9}{ah:dg->Bool}{n:Nat}
variable{ops:Array Oper}{es:List (St×aU)}{s':St}
theorem cL.congr{ag aa:Nat->Prop}{β:Bd}{s u:St}{t:Array da}{w:dk}(h:cL P n ag aa β s t w)(b:∀x,aO u.env x=aO s.env x)(a:u.heap=s.heap):cL P n ag aa β u t w:=by
 refine⟨by rw[a];exact h.heap,fun x=>?_,fun x=>?_,h.size⟩
 ·rw[b,a];exact h.env x
 ·rw[b,a];exact h.gD x
theorem cL.mG{ag aa:Nat->Prop}{β:Bd}{s:St}{t:Array da}{w:dk}(m:Nat)(h:cL P n ag aa β s t w):cL P n ag aa β ⟨s.env,s.heap++hU m .hole⟩ t w:=
 ⟨h.heap.mG m,fun x=>ar.mono (fun _ x=>x) (fun _ _=>rfl) (ou β s.heap m) _ _ (h.gD x) (h.env x),fun x=>aB.mono (ml _ _) _ (h.gD x),h.size⟩
theorem Vz{o:Oper}{e e':Env}(h:∀x∈looks ops o,aO e' x=aO e x):∀x∈o.op.operands,ev e' x=ev e x:=by
 intro x hx;cases x with
 |tmp t=>
  simp only[ev];refine h t ?_;simp only[looks,i8,List.mem_filterMap];exact .inl ⟨.tmp t,by simpa using hx,rfl⟩
 |_=>rfl
theorem iX.run(h:iX P n ops es s'){D:Nat->Prop}(hc:vg ops D){i:Nat}{o:Oper}(a:ops[i]?=some o)(v:¬D i)(y:∀e∈o.after,hz .any e=true->D e.on){s:St}(l:At ops es s' D s)
 {fr:ee}{k:List Item}{cs:List ee}{r:List Nat}{ds:List ej}{ag aa:Nat->Prop}{β:Bd}{t:Array da}{w:dk}(b:cL P n ag aa β s t w):
 ∃u aD aI d w',ez P (lone (bt fr t ds (.inRegion ops (i::r)::k)) cs w) (lone (bt fr d ds (.inRegion ops r::k)) cs w')/\cL P n ag aD aI u d w'/\(∀N,dI N ag aa w β s.heap ag aD w' aI u.heap)/\At ops es s' (fun j=>D j\/j=i) u:=by
 obtain⟨r1,r2⟩:=h.reads hc a v y l;have hi:i<ops.size:=(b2.1 a).1;obtain⟨q,_⟩:=h.at_ i o a;have c:=h.next hc a v y l;have m:iW n o=true:=h.dst o (by rw[Array.mem_toList_iff];exact Array.mem_of_getElem? a);have F:=h.vH (k:=i) o_;rcases q.act with⟨f,A⟩|⟨f,B⟩
 ·obtain⟨aD,aI,d,w',z,a2,a3⟩:=A fr k cs ops i r ds ag aa β s t w a (f t s ag aa β w b r1) m b (Vz r1) (by
   intro p x;rw[r2 p.1 (.inl (j8 x))];have:=q.aj p x;unfold hx;rw[iz (hR.1 this).1];exact this) (by
   intro j E;have C:(de es s' i).heap.length+j∈wr es s' i:=by
    unfold wr tN;rw[h5,rZ];exact List.mem_append_right _ (GW.2 ⟨o_,o_⟩)
   rw[r2 _ (.inr C)];have g:=h.vH (k:=i+1) o_;rw[(h.at_ i o a).2]at g;simp only[aU.app,hT,om]at g;unfold hx;rw[jW,if_neg o_,if_pos o_])
  exact⟨_,aD,aI,d,w',z,a2,a3,c⟩
 ·rw[B]at c;simp only[newAt,hW,aX]at c;exact⟨_,aa,β,_,w,.one (IC a (f t s ag aa β w b r1)),b.put m (bV.refl b.heap) (by simp[ar,aA,bf,undef]) (by simp[aB]),fun _=>dI.refl _ _ _ _ _ _,c⟩
def isDone(a:Array Bool)(i:Nat):Prop:=a.getD i false=true
theorem HC{p:Nat->Bool}{i:Nat}:∀{l:List Nat},l.Nodup->i∈l->p i=true->l.countP p=l.countP (fun x=>p x&&x !=i)+1
 |[],_,h,_=>by simp at h
 |a::l,c,h,d=>by
  rw[List.nodup_cons]at c
  by_cases b:a=i
  ·subst b;have e:l.countP (fun x=>p x&&x !=a)=l.countP p:=by
    refine j9 fun x hx=>?_;have:x≠a:=fun e=>c.1 (e▸hx);simp[this]
   simp[d,e]
  ·have f:i∈l:=by
    rcases hX.1 h with h|h
    ·exact(b h.symm).elim
    ·exact h
   have g:=HC c.2 f d;rw[kc,kc,g];have:(a !=i)=true:=by simpa using b
   simp only[this,Bool.and_true];omega
def left(b:Array Oper)(a:Array Bool):Nat:=(i5 b.size).countP fun i=>!a.getD i true
theorem iX.goes(h:iX P n ops es s'){fr:ee}{k:List Item}{cs:List ee}{ds:List ej}{ag:Nat->Prop}:∀(c b:Nat)(a:Array Bool)(s:St)(aa:Nat->Prop)(β:Bd)(t:Array da)(w:dk),a.size=ops.size->left ops a<=c->vg ops (isDone a)->
 At ops es s' (isDone a) s->cL P n ag aa β s t w->
 ∃u D aD aI Q w',ez P (lone (bt fr t ds (.inRegion ops (hB .any ops c b a [])::k)) cs w) (lone (bt fr Q ds (.inRegion ops []::k)) cs w')/\cL P n ag aD aI u Q w'/\(∀N,dI N ag aa w β s.heap ag aD w' aI u.heap)/\At ops es s' D u/\∀j,j<ops.size->D j:=by
 have L:∀(a:Array Bool),a.size=ops.size->hv .any ops a=[]->∀j,j<ops.size->isDone a j:=by
  intro a q f j
  induction j using le with
  |_ j K=>
   intro d
   by_cases A:isDone a j
   ·exact A
   ·exfalso;have G:j<a.size:=by omega
    have:j∈hv .any ops a:=by
     rw[eq];refine⟨?_,ops[j],b3 d,fun e B z=>?_⟩
     ·unfold isDone at A;simp only[ck,b3 G,lt]at A⊢;simpa using A
     ·have H:=h.lower j _ (b3 d) e B z;exact K e.on H o_
    rw[f]at this;simp at this
 intro c
 induction c with
 |zero=>
  intro b a s aa β t w q hl hc y C;have f:hv .any ops a=[]:=by
   rw[List.eq_nil_iff_forall_not_mem];intro j d;rw[eq]at d;obtain⟨g,o,m,_⟩:=d;have G:j<ops.size:=(b2.1 m).1;have:0<left ops a:=by
    unfold left;rw[List.countP_pos_iff];exact⟨j,by simpa using G,by rw[g];rfl⟩
   omega
  exact⟨s,isDone a,aa,β,t,w,by simp only[hB,List.reverse_nil];exact hL _ _,C,fun _=>dI.refl _ _ _ _ _ _,y,L a q f⟩
 |succ c K=>
  intro b a s aa β t w q hl hc y C;have ab:hB .any ops (c+1) b a []=(match(hv .any ops a)[b% (hv .any ops a).length]? with
   |some i=>hB .any ops c (b/(hv .any ops a).length) (a.setIfInBounds i true) [i]
   |none=>[].reverse):=rfl
  rw[ab];cases hi:(hv .any ops a)[b% (hv .any ops a).length]? with
  |none=>
   have f:hv .any ops a=[]:=by
    cases f:hv .any ops a with
    |nil=>rfl
    |cons x xs=>
     rw[f]at hi;have H:b% (x::xs).length<(x::xs).length:=Nat.mod_lt _ s_;rw[hZ H]at hi;cases hi
   exact⟨s,isDone a,aa,β,t,w,hL _ _,C,fun _=>dI.refl _ _ _ _ _ _,y,L a q f⟩
  |some i=>
   simp only;rw[linearise_go_acc,List.reverse_singleton,List.singleton_append];have ae:=List.mem_of_getElem? hi;obtain⟨g,o,m,O⟩:=eq.1 ae;have ac:i<ops.size:=(b2.1 m).1;have E:i<a.size:=o_
   have af:¬isDone a i:=by
    unfold isDone;simp only[ck,b3 E,lt]at g⊢;simp[g]
   obtain⟨u,R,aj,t1,ah,T,a2,a3,a4⟩:=h.run (fr:=fr) (k:=k) (cs:=cs) (ds:=ds) (r:=hB .any ops c (b/(hv .any ops a).length) (a.setIfInBounds i true) []) hc m af O y C;have M:(fun j=>isDone a j\/j=i)=isDone (a.setIfInBounds i true):=by
    funext j
    unfold isDone
    by_cases F:j=i
    ·subst F;simp[E]
    ·have:(a.setIfInBounds i true).getD j false=a.getD j false:=ew false (ln F);rw[this];simp[F]
   rw[M]at a4;have Z:vg ops (isDone (a.setIfInBounds i true)):=by
    rw[<-M];intro j o' I d e B z;rcases d with d|rfl
    ·exact .inl (hc j o' I d e B z)
    ·rw[m]at I;cases I;exact .inl (O e B z)
   have ad:left ops (a.setIfInBounds i true)<=c:=by
    have al:=HC (p:=fun j=>!a.getD j true) (i:=i) (l:=i5 ops.size) List.nodup_range (by simpa using ac) (by show(!a.getD i true)=true;rw[g];rfl);have:left ops (a.setIfInBounds i true)=(i5 ops.size).countP (fun x=>!a.getD x true&&x !=i):=by
     unfold left;refine j9 fun x hx=>?_
     by_cases J:x=i
     ·subst J;simp[E]
     ·have:(a.setIfInBounds i true).getD x true=a.getD x true:=ew true (ln J);rw[this];simp[J]
    unfold left at hl;omega
   obtain⟨v,D,S,ak,t2,ai,U,V,W,X,Y⟩:=K (b/(hv .any ops a).length) (a.setIfInBounds i true) u R aj t1 ah (by simpa using q) ad Z a4 a2;exact⟨v,D,S,ak,t2,ai,T.trans U,V,fun N=>(a3 N).trans (W N),X,Y⟩
theorem Vx(h:fit n ops=true):(∀j o,ops[j]?=some o->∀e∈o.after,hz .any e=true->e.on<j)/\
 (∀i j u o,i<j->ops[i]?=some u->ops[j]?=some o->pS ops u o=true->reach ops ops.size i j=true):=by
 unfold fit at h;rw[h8]at h;constructor
 ·intro j o a e f c;have b:j<ops.size:=(b2.1 a).1;have:=h j (by simpa using b);rw[a]at this;simp only[cE,h8]at this;have:=this.1 e (by simpa using f);simpa[c]using this
 ·intro i j u o g k a d;have b:j<ops.size:=(b2.1 a).1;have:=h j (by simpa using b);rw[a]at this;simp only[cE,h8]at this;have:=this.2 i (by simpa using g);rw[k]at this;simpa[d]using this
theorem xg(C:ly P ah)(Z:P.follows .mixedOrders=true):se P ah fit:=by
 intro n N a fr k cs F f K s ag aa β t w T B h ab;obtain⟨es,s',I,J,M⟩:=Jv C B a.toList 0 [] s (fun _ h=>h) h;obtain⟨t1,t2,t3⟩:=I.at;obtain⟨_,_,O⟩:=HR es 0 [] M;obtain⟨f1,f2⟩:=Vx (n:=n) T;have X:es.length=a.size:=by simpa using t1
 have hs:iX P n a es s':=by
  refine⟨X,fun k o c=>t3 k o (by simpa using c),B,f1,f2,fun i j U ai v=>?_⟩;have hi:i<es.length:=o_
  have A:j<es.length:=o_
  have G:es[i]?=some (es[i].1,es[i].2):=by simp[hZ hi]
  have H:es[j]?=some (es[j].1,es[j].2):=by simp[hZ A]
  have:=O i j es[i].1 es[i].2 es[j].1 es[j].2 U G H;simp only[kz]at this;refine this ?_;have g:de es s' i=es[i].1/\fB es i=es[i].2:=by simp[de,fB,hZ hi]
  have q:de es s' j=es[j].1/\fB es j=es[j].2:=by simp[de,fB,hZ A]
  rw[g.1,g.2,q.1,q.2]at v;exact v
 have V:=hs.vH (k:=0) (lc _);rw[t2]at V;obtain⟨m,Y⟩:∃m,m=s'.heap.length-s.heap.length:=⟨_,rfl⟩
 have ac:=ab.mG m;have Q:∀N,dI N ag aa w β s.heap ag aa w β (s.heap++hU m .hole):=fun N=>⟨fun _ x=>x,fun _ x=>x,fun _ x=>.inl x,Ext.refl _ _ _,(ou _ _ _).n,fun x _=>ml _ _ x,fun b _⟨L,r⟩=>⟨L,by rw[jW,if_pos (hR.1 r).1];exact r⟩⟩
 have ad:hA (P.follows .mixedOrders) a f=hB .any a a.size f (cc a.size false) []:=by
  simp[hA,Z,Region.linearise]
 have e:∀i,¬isDone (cc a.size false) i:=by
  intro i hi;unfold isDone at hi
  by_cases z:i<a.size
  ·simp[z]at hi
  ·simp[z]at hi
 have R:At a es s' (isDone (cc a.size false)) ⟨s.env,s.heap++hU m .hole⟩:=by
  refine⟨fun x=>⟨0,lc _,by rw[t2],fun i o _ _=>⟨fun h=>(e i h).elim,fun h=>by omega⟩⟩,by simp;omega,fun b=>⟨0,lc _,by rw[t2];unfold hx;rw[<-Y],fun i _ _=>⟨fun h=>(e i h).elim,fun h=>by omega⟩⟩⟩
 have W:left a (cc a.size false)<=a.size:=by
  unfold left;have:=List.countP_le_length (p:=fun i=>!(cc a.size false).getD i true) (l:=i5 a.size);simpa using this
 obtain⟨u,D,aD,aI,af,w',E,a2,a3,a4,a5⟩:=hs.goes (fr:=fr) (k:=k) (cs:=cs) (ds:=F) a.size f (cc a.size false) _ aa β t w s_ W (fun j o c d=>(e j d).elim) R ac;rw[ad];have S:∀x,aO s'.env x=aO u.env x:=by
  intro x;obtain⟨k,k1,k2,k3⟩:=a4.tmp x;rw[k2];have:=hs.KG (x:=x) k1 (kp a.size) (fun i o c d=>by
   have hi:i<a.size:=(b2.1 c).1;have:=(k3 i o c d).1 (a5 i hi);exact⟨fun _=>hi,fun _=>this⟩)
  rw[hs.last]at this;exact this
 have y:s'.heap=u.heap:=by
  apply List.ext_getElem?;intro b;obtain⟨k,k1,k2,k3⟩:=a4.heap b;rw[k2];have:=hs.Kr (b:=b) k1 (kp a.size) (fun i hi ae=>by
   have:=(k3 i hi ae).1 (a5 i hi);exact⟨fun _=>hi,fun _=>this⟩)
  rw[hs.last]at this;rw[<-this];simp[hx]
 exact⟨s',aD,aI,af,w',J,E,a2.congr S y,(Q N).trans (y▸a3 N)⟩
end
section
variable{P:c9}
structure al(P:c9)(f:dg)(fn:Func):Prop where
 func:P.funcs[f]?=some fn
 stat:(fn.body.isSome&&(fn.name != "runtime.NumGoroutine")&&codeOk fit fn.ntmps (fn.body.getD .skip))=true
theorem i_{P:c9}{n:dg}{fn:Func}(h:P.funcs[n]?=some fn)(k:(fn.body.isSome&&(fn.name != "runtime.NumGoroutine")&&codeOk fit fn.ntmps (fn.body.getD .skip))=true:=by kernel_rfl):al P n fn:=⟨h,k⟩
theorem al.enters{f:dg}{fn:Func}(h:al P f fn):Enters P f:=by
 intro args w;have hs:=h.stat;simp only[cE,bne_iff_ne]at hs;cases a:fn.body with
 |none=>rw[a]at hs;simp at hs
 |some c=>simp[callFunc,h.func,hs.1.2,a]
def Ends(P:c9)(a:List ed)(v:PV)(e:bp)(s:St):Prop:=
 (match e with
  | .exit _=>False
  |_=>True)/\∃vs,fC P s a=some vs/\dY s.heap 9 (oneOf vs)=some v
theorem zl{f:dg}{fn:Func}(ah:dg->Bool)(h:al P f fn)(b:P.follows .mixedOrders=true){args:List PV}{v:PV}(c:args.length<=fn.ntmps)
 (d:b9 P ah (fn.ntmps,0) (fn.body.getD .skip) (Ends P fn.results.toList v) ⟨iI 0 (args.map .p),[]⟩):az P f args v:=by
 have hs:=h.stat;simp only[cE,bne_iff_ne]at hs;have a:fn.body=some (fn.body.getD .skip):=by
  have:=hs.1.1;cases e:fn.body<;>simp_all
 exact .inl (JR (ot ah) (xg (ot ah) b) h.enters h.func a hs.2 c d)
class aFi(P:c9)(f:dg)(args:List PV)(pre:outParam Prop)(v:outParam PV):Prop where
 zl:pre->az P f args v
section calls
variable{f:dg}{H:Heap}{pre:Prop}{v:PV}
end calls
def qZ(e:Env):Env->Prop
 |[]=>True
 |(x,v)::r=>aO e x=v/\qZ e r
def kl:Heap->Heap->Prop
 |_,[]=>True
 |[],.hole::t=>kl [] t
 |_::h,.hole::t=>kl h t
 |o::h,o'::t=>o=o'/\kl h t
 |[],_::_=>False
theorem qZ.get{e:Env}:∀{t:Env},qZ e t->∀x,aO t x=aO e x\/aO t x=.p .undef
 |[],_,x=>.inr rfl
 |(y,v)::t,h,x=>by
  simp only[qZ]at h;simp only[aO]
  split
  ·rename_i hx;subst hx;exact .inl h.1.symm
  ·exact qZ.get h.2 x
theorem kl.get:∀{h t:Heap},kl h t->∀(b:Nat)(o:Obj),t[b]?=some o->o=.hole\/h[b]?=some o
 |_,[],_,b,o,a=>by simp at a
 |[],o'::t,hk,b,o,a=>by
  cases o'<;>simp only[kl]at hk;cases b with
  |zero=>simp at a;exact .inl a.symm
  |succ b=>exact(kl.get hk b o (by simpa using a)).imp id (fun h=>by simp at h)
 |c::h,o'::t,hk,b,o,a=>by
  cases b with
  |zero=>
   simp at a;cases o'<;>simp only[kl]at hk
   case hole=>exact .inl a.symm
   all_goals exact .inr (by rw[<-a,<-hk.1];simp)
  |succ b=>
   have:kl h t:=by cases o'<;>simp only[kl]at hk<;>first|exact hk|exact hk.2
   exact(kl.get this b o (by simpa using a)).imp id (fun h=>by simpa using h)
def iL(H:Heap):Env->Prop
 |[]=>True
 |(_,v)::r=>aB (aH H) v/\iL H r
def ey(H:Heap):Heap->Prop
 |[]=>True
 |o::r=>o.refs (aH H)/\ey H r
theorem iL.get{H:Heap}:∀{e:Env},iL H e->∀x,aB (aH H) (aO e x)
 |[],_,x=>by simp[aO,aB]
 |(y,v)::e,h,x=>by
  simp only[iL]at h;simp only[aO]
  split
  ·exact h.1
  ·exact iL.get h.2 x
theorem ey.get{H:Heap}:∀{h:Heap},ey H h->∀(b:Nat)(o:Obj),h[b]?=some o->o.refs (aH H)
 |[],_,b,o,a=>by simp at a
 |d::h,c,b,o,a=>by
  simp only[ey]at c;cases b with
  |zero=>simp at a;subst a;exact c.1
  |succ b=>exact ey.get c.2 b o (by simpa using a)
theorem oY.of{s t:St}(a:qZ s.env t.env)(c:kl s.heap t.heap)(e:iL t.heap t.env)(f:ey t.heap t.heap):oY s t:=
 ⟨fun x=>(a.get x).imp id .inl,fun b o d=>(c.get b o d).imp id .inl,e.get,f.get⟩
theorem bC.of{N:Nat}{s t:St}(hn:t.heap.take N=s.heap.take N)(c:qZ s.env t.env)(d:kl s.heap t.heap)(e:iL t.heap t.env)(f:ey t.heap t.heap):bC N s t:=by
 refine .inr ⟨oY.of c d e f,fun b a=>?_⟩;have:=congrArg (fun l:Heap=>l[b]?) hn;simpa[List.getElem?_take,a]using this
theorem Of{f:dg}{fn:Func}(ah:dg->Bool)(h:al P f fn)(b:P.follows .mixedOrders=true){args:List AV}{H H':Heap}{v:AV}(c:args.length<=fn.ntmps)
 (d:b9 P ah (fn.ntmps,H.length) (fn.body.getD .skip) (s9 P fn.results.toList H.length H' v) ⟨iI 0 args,H⟩):cm P f H args H' v:=by
 have hs:=h.stat;simp only[cE,bne_iff_ne]at hs;have a:fn.body=some (fn.body.getD .skip):=by
  have:=hs.1.1;cases e:fn.body<;>simp_all
 exact Vw (ot ah) (xg (ot ah) b) h.enters h.func a hs.2 c d
theorem Og(ah:dg->Bool)(f:P.follows .mixedOrders=true){b:Nat}{L:fo}{H H':Heap}{args:List AV}{v:AV}(d:H[b]?=some (.loop L))(e:args.length=L.params.length)
 (a:(L.params.all (fun x=>decide (x<L.n))&&codeOk fit L.n L.assign&&codeOk fit L.n L.body)=true)(g:xU P ah L b args H (fun c h=>h=v/\bC H.length ⟨[],c⟩ ⟨[],H'⟩)):iw P b H args H' v:=by
 simp only[cE,h8,decide_eq_true_eq]at a;exact Vu (ot ah) (xg (ot ah) f) d e a.1.1 a.1.2 a.2 g
theorem again{N:Nat}{α:Type}{mk:α->St}{ok:α->Prop}{m:α->Nat}{n:Nat}{s':St}(a':α)(c:m a'<n)(d:ok a')(e:bC N s' (mk a')):∃a b,a<n/\bC N s' b/\∃a',ok a'/\b=mk a'/\a=m a':=
 ⟨m a',mk a',c,e,a',d,rfl,rfl⟩
end
section
variable{P:c9}{ah:dg->Bool}
def aQ{α:Type}(F:(α->Prop)->Prop):Prop:=∀K,F K->∃a,K a/\∀b:α->Prop,b a->F b
theorem aQ.one{α β:Type}(f:β->α)(b:β):aQ (fun K:α->Prop=>K (f b)):=fun _ h=>⟨f b,h,fun _ h=>h⟩
theorem aQ.false{α:Type}:aQ (fun _:α->Prop=>False):=fun _ h=>h.elim
theorem aQ.and{α:Type}{p:Prop}{F:(α->Prop)->Prop}(h:aQ F):aQ (fun K=>p/\F K):=fun K hk=>by
 obtain⟨a,c,d⟩:=h K hk.2;exact⟨a,c,fun b h=>⟨hk.1,d b h⟩⟩
theorem aQ.ex{α:Type}{β:Sort _}{F:β->(α->Prop)->Prop}(h:∀b,aQ (F b)):aQ (fun K=>∃b,F b K):=fun K⟨b,f⟩=>by
 obtain⟨a,d,e⟩:=h b K f;exact⟨a,d,fun c h=>⟨b,e c h⟩⟩
theorem aQ.or{α:Type}{F G:(α->Prop)->Prop}(h:aQ F)(e:aQ G):aQ (fun K=>F K\/G K):=fun K hk=>by
 rcases hk with hk|hk
 ·obtain⟨a,c,d⟩:=h K hk;exact⟨a,c,fun b h=>.inl (d b h)⟩
 ·obtain⟨a,c,d⟩:=e K hk;exact⟨a,c,fun b h=>.inr (d b h)⟩
theorem aQ.ite{α:Type}{p:Prop}[Decidable p]{F G:(α->Prop)->Prop}(h:aQ F)(f:aQ G):aQ (fun K=>if p then F K else G K):=fun K hk=>by
 split at hk
 ·rename_i e;obtain⟨a,c,d⟩:=h K hk;exact⟨a,c,fun b h=>by simpa[e]using d b h⟩
 ·rename_i e;obtain⟨a,c,d⟩:=f K hk;exact⟨a,c,fun b h=>by simpa[e]using d b h⟩
theorem aQ.bind{α β:Type}{F:(α->Prop)->Prop}{G:α->(β->Prop)->Prop}(h:aQ F)(d:∀a,aQ (G a)):aQ (fun K=>F (fun a=>G a K)):=fun K hk=>by
 obtain⟨a,e,f⟩:=h _ hk;obtain⟨b,g,i⟩:=d a K e;exact⟨b,g,fun c h=>f _ (i c h)⟩
theorem aQ.map{α β:Type}{F:(α->Prop)->Prop}(h:aQ F)(f:α->β):aQ (fun K=>F (fun a=>K (f a))):=h.bind fun a=>aQ.one f a
theorem T8(T:c8)(H:Heap)(a:AV):aQ (nM P T H a):=by
 unfold nM
 repeat' first
  |exact aQ.false
  |exact aQ.one id _
  |refine aQ.and ?_
  |refine aQ.ex fun _=>?_
  |split
theorem TL(T:c8)(H:Heap)(a x:AV):aQ (nA P T H a x):=by
 unfold nA
 repeat' first
  |exact aQ.false
  |exact aQ.one id _
  |refine aQ.and ?_
  |refine aQ.ex fun _=>?_
  |split
theorem Rq(T:c8)(a:AV)(f:Nat):aQ (ni P T a f):=by
 unfold ni
 repeat' first
  |exact aQ.false
  |exact aQ.one id _
  |refine aQ.and ?_
  |refine aQ.ex fun _=>?_
  |split
theorem Rp(T:c8)(H:Heap)(a i:AV):aQ (nh P T H a i):=by
 unfold nh
 repeat' first
  |exact aQ.false
  |exact aQ.one id _
  |refine aQ.and ?_
  |refine aQ.ex fun _=>?_
  |split
theorem Se(T X:c8)(H:Heap)(s x:AV):aQ (nq P T X H s x):=by
 unfold nq
 repeat' first
  |exact aQ.false
  |exact aQ.one id _
  |refine aQ.and ?_
  |refine aQ.ex fun _=>?_
  |refine aQ.ite ?_ ?_
  |split
theorem Jz{α:Type}{F:Nat->(α->Prop)->Prop}(x:Option AV)(d:Nat)(h:∀n,aQ (F n)):aQ (fun K=>gB x d (fun n=>F n K)):=by
 unfold gB
 split
 ·exact h _
 ·exact aQ.and (h _)
 ·exact aQ.false
theorem TM(T:c8)(H:Heap)(x:AV)(lo hi a:Option AV):aQ (nB P T H x lo hi a):=by
 unfold nB;refine aQ.and ?_
 repeat' first
  |exact aQ.false
  |exact aQ.one id _
  |refine aQ.and ?_
  |refine Jz _ _ fun _=>?_
  |refine aQ.ite ?_ ?_
  |split
theorem Sd(T:c8)(H:Heap)(x:AV)(lo hi:Option AV)(m:AV):aQ (pT P T H x lo hi m):=by
 unfold pT
 repeat' first
  |exact aQ.false
  |exact aQ.one id _
  |refine aQ.and ?_
  |refine Jz _ _ fun _=>?_
  |split
theorem U2(op:dp)(T:c8)(c:Bool)(H:Heap)(x y:AV)(f:PV->aU):aQ (fun K:aU->Prop=>kj P op T c H x y (fun v=>K (f v))):=by
 unfold kj
 repeat' first
  |exact aQ.false
  |exact aQ.one f _
  |refine aQ.and ?_
  |(unfold o7;split)
  |(unfold o6;split)
  |split
theorem QA(a:c8)(b:Nat)(key:PV)(x:AV)(c:Obj):aQ (mf P a b key x c):=by
 unfold mf
 repeat' first
  |exact aQ.false
  |exact aQ.one id _
  |refine aQ.and ?_
  |split
theorem BU(o:Oper)(ρ:c7->AV)(H:Heap):aQ (fy P ah o ρ H):=by
 unfold fy
 repeat' first
  |exact aQ.false
  |exact aQ.one id _
  |exact T8 _ _ _
  |exact TL _ _ _ _
  |exact Rq _ _ _
  |exact Rp _ _ _ _
  |exact TM _ _ _ _ _ _
  |exact Sd _ _ _ _ _ _
  |exact Se _ _ _ _ _
  |exact QA _ _ _ _ _
  |exact U2 _ _ _ _ _ _ _
  |refine aQ.and ?_
  |refine aQ.ex fun _=>?_
  |refine aQ.ite ?_ ?_
  |refine aQ.or ?_ ?_
  |split
  |dsimp only
theorem IH(d:Bool)(f:dg)(args:List AV)(H:Heap){α:Type}(g:AV->Heap->α):aQ (fun K:α->Prop=>gM P d f args H (fun v H'=>K (g v H'))):=by
 unfold gM;refine aQ.or (aQ.ex fun vs=>aQ.ex fun v=>aQ.and (aQ.and ?_)) (aQ.and (aQ.or (aQ.ex fun vs=>aQ.ex fun H1=>aQ.ex fun v=>aQ.and (aQ.and ?_)) (aQ.or (aQ.ex fun H'=>aQ.ex fun v=>aQ.and ?_) (aQ.or (aQ.ex fun e=>aQ.and (aQ.and ?_)) (aQ.ex fun aj=>aQ.ex fun v=>aQ.and (aQ.and ?_))))))
 ·exact aQ.one (fun v=>g (.p v) H) v
 ·exact aQ.one (fun v=>g (.p v) H1) v
 ·exact aQ.one (fun v=>g v H') v
 ·exact aQ.one (fun _:Unit=>g e.v (aX H e.aG++e.aS)) ()
 ·exact aQ.one (fun v=>g (.p v) H) v
theorem HU(f:dg)(args:List AV)(H:Heap):aQ (gT P f args H):=by
 unfold gT;refine aQ.or (aQ.ex fun vs=>aQ.ex fun v=>aQ.and (aQ.and (aQ.one id _))) (aQ.or (aQ.ex fun vs=>aQ.ex fun bs=>aQ.ex fun aj=>aQ.ex fun aG=>aQ.ex fun v=>aQ.and (aQ.and (aQ.and (aQ.one id _)))) (aQ.or (aQ.ex fun e=>aQ.and (aQ.and (aQ.one id _))) (aQ.ex fun aj=>aQ.ex fun v=>aQ.and (aQ.and (aQ.one id _)))))
theorem IF(d:Bool)(o:Oper)(s:St):aQ (fun K=>jE P ah d o K s):=by
 unfold jE
 split
 ·split
  ·exact IH _ _ _ _ (fun v H'=>(⟨put o.dst v s.env,H'⟩:St))
  ·exact IH _ _ _ _ (fun v H'=>(⟨put o.dst v s.env,H'⟩:St))
  ·exact aQ.ex fun H'=>aQ.ex fun v=>aQ.and (aQ.one (fun _:Unit=>(⟨put o.dst v s.env,H'⟩:St)) ())
  ·exact aQ.false
 ·exact(BU o _ _).map (fun e=>e.app o.dst s)
theorem IG(o:Oper)(s:St):aQ (jq P ah o s):=by
 unfold jq
 split
 ·split
  ·exact HU _ _ _
  ·exact HU _ _ _
  ·exact aQ.ex fun e=>aQ.and (aQ.and (aQ.one id _))
  ·exact aQ.false
 ·exact BU o _ _
theorem xN(d:Bool)(a:Array Oper):∀(l:List Oper)(s:St),aQ (fun K=>gP P ah d a l K s)
 |[],s=>by simp only[gP];exact aQ.one id s
 |o::l,s=>by
  have go:aQ (fun K=>jE P ah d o (gP P ah d a l K) s):=(IF d o s).bind fun t=>xN d a l t;simp only[gP]
  split
  ·exact go
  ·split
   ·split
    ·exact go
    ·exact xN d a l _
   ·exact xN d a l _
   ·exact aQ.false
theorem xw(b:Array Oper):∀(l:List Oper)(i:Nat)(a:List Touch)(s:St),aQ (fun K=>gh P ah b l i a K s)
 |[],i,a,s=>by simp only[gh];exact aQ.and (aQ.one id s)
 |o::l,i,a,s=>by
  have go:aQ (fun K=>jq P ah o s fun e=>gh P ah b l (i+1) (gO i s.heap.length e a) K (e.app o.dst s)):=(IG o s).bind fun e=>xw b l (i+1) _ _;simp only[gh]
  split
  ·exact go
  ·split
   ·split
    ·exact go
    ·exact xw b l (i+1) a _
   ·exact xw b l (i+1) a _
   ·exact aQ.false
def yZ(F:(bp->St->Prop)->Prop):Prop:=∀Q,F Q->∃e s,Q e s/\∀a:bp->St->Prop,a e s->F a
inductive u9(P:c9)(ah:dg->Bool)(q:Cx)(b:Code)(e:bp)(s:St):Nat->St->Prop
 |stop {k:Nat} {u:St}:(∀Q:bp->St->Prop,Q e s->b9 P ah q b Q u)->e≠.normal->u9 P ah q b e s k u
 |step {k m:Nat} {u s1 u':St}:(∀Q:bp->St->Prop,Q .normal s1->b9 P ah q b Q u)->m<k->bC q.2 s1 u'->u9 P ah q b e s m u'->u9 P ah q b e s k u
theorem T9(j:Option Code)(s:St):yZ (fun Q=>ki Q j s):=fun Q h=>by
 unfold ki at h
 split at h
 ·exact⟨.normal,s,h,fun _ h=>h⟩
 ·rename_i id;exact⟨.exit id,s,h,fun _ h=>h⟩
 ·exact⟨.ret,s,h,fun _ h=>h⟩
 ·exact h.elim
theorem IE(b:Nat)(env:Env)(H:Heap):yZ (fun Q=>iT b env Q H):=fun Q h=>by
 unfold iT at h
 split at h
 ·rename_i L f;obtain⟨e,s,c,d⟩:=T9 _ _ Q h.2;exact⟨e,s,c,fun a hq=>by unfold iT;simp only[f];exact⟨h.1,d a hq⟩⟩
 ·exact h.elim
theorem TT(it:AV)(b:Nat)(H:Heap)(env:Env):yZ (fun Q=>jM P it b H (iT b env Q)):=fun Q h=>by
 unfold jM at h
 split at h
 ·obtain⟨H',v,c,d⟩:=h;obtain⟨e,s,k1,k2⟩:=IE b env H' Q d;exact⟨e,s,k1,fun a hq=>by simp only[jM];exact⟨H',v,c,k2 a hq⟩⟩
 ·obtain⟨H',v,c,d⟩:=h;obtain⟨e,s,k1,k2⟩:=IE b env H' Q d;exact⟨e,s,k1,fun a hq=>by simp only[jM];exact⟨H',v,c,k2 a hq⟩⟩
 ·exact h.elim
theorem mZ{q:Cx}:∀(c:Code)(s:St),yZ (fun Q=>b9 P ah q c Q s)
 | .skip,s| .label _,s=>fun Q h=>⟨.normal,s,h,fun _ h=>h⟩
 | .exit id,s=>fun Q h=>⟨.exit id,s,h,fun _ h=>h⟩
 | .ret,s=>fun Q h=>⟨.ret,s,h,fun _ h=>h⟩
 | .region id ops draw,s=>fun Q h=>by
  simp only[b9]at h⊢
  split at h
  ·rename_i l;obtain⟨t,d,g⟩:=xw ops _ _ _ _ _ h;exact⟨.normal,t,d,fun Q' h=>by simp only[l,if_true];exact g _ h⟩
  ·rename_i l;obtain⟨t,d,g⟩:=xN _ ops _ _ _ h;exact⟨.normal,t,d,fun Q' h=>by rw[if_neg l];exact g _ h⟩
 | .seq a b,s=>fun Q h=>by
  simp only[b9]at h⊢;obtain⟨e,t,d,g⟩:=mZ a s _ h;cases e with
  |normal=>
   obtain⟨e',r,k,y⟩:=mZ b t _ d;exact⟨e',r,k,fun Q' h=>g _ (y Q' h)⟩
  |exit id=>exact⟨.exit id,t,d,fun Q' h=>g _ h⟩
  |ret=>exact⟨.ret,t,d,fun Q' h=>g _ h⟩
 | .cond c a b,s=>fun Q h=>by
  simp only[b9]at h⊢
  split at h
  ·split at h
   ·rename_i p;obtain⟨e,t,d,g⟩:=mZ a s _ h;exact⟨e,t,d,fun Q' h=>by rw[if_pos p];exact g _ h⟩
   ·rename_i p;obtain⟨e,t,d,g⟩:=mZ b s _ h;exact⟨e,t,d,fun Q' h=>by rw[if_neg p];exact g _ h⟩
  ·exact h.elim
 | .block id b,s=>fun Q h=>by
  simp only[b9]at h⊢;obtain⟨e,t,d,g⟩:=mZ b s _ h;cases e with
  |normal=>exact⟨.normal,t,d,fun Q' h=>g _ h⟩
  |exit i=>
   by_cases hi:i=id
   ·simp only[hi,if_true]at d;exact⟨.normal,t,d,fun Q' h=>g _ (by simp only[hi,if_true];exact h)⟩
   ·simp only[hi,if_false]at d;exact⟨.exit i,t,d,fun Q' h=>g _ (by simp only[hi,if_false];exact h)⟩
  |ret=>exact⟨.ret,t,d,fun Q' h=>g _ h⟩
 | .scope b,s=>fun Q h=>by simp only[b9]at h⊢;exact mZ b s Q h
 | .loop b,s=>fun Q h=>by
  simp only[b9]at h⊢;obtain⟨I,⟨w,t0,hf,hI⟩,E⟩:=h;have key:∀(n:Nat)(t:St),I n t->∃e u,Q e u/\e≠.normal/\u9 P ah q b e u n t:=by
   intro n
   induction n using le with
   |_ n F=>
    intro t hI;obtain⟨e,s1,d,g⟩:=mZ b t _ (E n t hI);cases e with
    |normal=>
     obtain⟨m,r,j,o,z⟩:=d;obtain⟨e,u,k1,k2,k3⟩:=F m j r z;exact⟨e,u,k1,k2,.step g j o k3⟩
    |exit id=>exact⟨.exit id,s1,d,s_,.stop g s_⟩
    |ret=>exact⟨.ret,s1,d,s_,.stop g s_⟩
  obtain⟨e,u,d,g,k⟩:=key w t0 hI;refine⟨e,u,d,fun Q' v=>⟨u9 P ah q b e u,⟨w,t0,hf,k⟩,?_⟩⟩;intro n t hl;cases hl with
  |stop hs D=>
   refine hs _ ?_;cases e with
   |normal=>exact(D rfl).elim
   |exit id=>exact v
   |ret=>exact v
  |step hs j o C=>exact hs _ ⟨_,_,j,o,C⟩
 | .rangeFunc f G a b,s=>fun Q h=>by
  simp only[b9]at h;obtain⟨A,x,B,h⟩:=h;obtain⟨e,t,d,g⟩:=TT _ _ _ _ Q h;exact⟨e,t,d,fun Q' hq=>by simp only[b9];exact⟨A,x,B,g Q' hq⟩⟩
 | .goto _,_| .refuse _,_=>fun Q h=>by simp[b9]at h
def Spec(P:c9)(f:dg)(args:List PV)(Q:PV->Prop):Prop:=∃v,az P f args v/\Q v
def y6(P:c9)(a:List ed)(Q:PV->Prop)(e:bp)(s:St):Prop:=
 (match e with
  | .exit _=>False
  |_=>True)/\∃vs,fC P s a=some vs/\∃v,dY s.heap 9 (oneOf vs)=some v/\Q v
theorem Spec.mono{f:dg}{args:List PV}{Q a:PV->Prop}(h:Spec P f args Q)(hq:∀v,Q v->a v):Spec P f args a:=by
 obtain⟨v,b,c⟩:=h;exact⟨v,b,hq v c⟩
end
def nK(id:Nat)(Q:bp->St->Prop)(e:bp)(s:St):Prop:=
 match e with
 | .exit i=>if i=id then Q .normal s else Q (.exit i) s
 |e=>Q e s
theorem RF{id:Nat}{Q:bp->St->Prop}{s:St}:nK id Q .normal s=Q .normal s:=(rfl)
theorem S4{id i:Nat}{Q:bp->St->Prop}{s:St}:nK id Q (.exit i) s=if i=id then Q .normal s else Q (.exit i) s:=(rfl)
theorem Ub{id:Nat}{Q:bp->St->Prop}{s:St}:nK id Q .ret s=Q .ret s:=(rfl)
def sR(N n:Nat)(I:Nat->St->Prop)(Q:bp->St->Prop)(e:bp)(s:St):Prop:=
 match e with
 | .normal=>∃a b,a<n/\bC N s b/\I a b
 |e=>Q e s
theorem Ru{N n:Nat}{I:Nat->St->Prop}{Q:bp->St->Prop}{s:St}:sR N n I Q .normal s=∃a b,a<n/\bC N s b/\I a b:=(rfl)
theorem Sh{N n id:Nat}{I:Nat->St->Prop}{Q:bp->St->Prop}{s:St}:sR N n I Q (.exit id) s=Q (.exit id) s:=(rfl)
theorem TP{N n:Nat}{I:Nat->St->Prop}{Q:bp->St->Prop}{s:St}:sR N n I Q .ret s=Q .ret s:=(rfl)
section C9
variable{P:c9}
end C9
section
variable{P:c9}{ah:dg->Bool}
abbrev dZ:=Option (Prop×aU)
def aZ(r:dZ)(K:aU->Prop):Prop:=
 match r with
 |some (p,e)=>p/\K e
 |none=>False
theorem TY{p:Prop}{e:aU}{K:aU->Prop}:aZ (some (p,e)) K=(p/\K e):=(rfl)
theorem Uw{K:aU->Prop}:aZ none K=False:=(rfl)
@[congr] theorem aHK{r a:dZ}{K:aU->Prop}(h:r=a):aZ r K=aZ a K:=by rw[h]
def Can(F:(aU->Prop)->Prop)(r:dZ):Prop:=∀K,aZ r K->F K
theorem Can.none{F:(aU->Prop)->Prop}:Can F none:=fun _ h=>h.elim
def o8(P:c9)(T:c8)(H:Heap)(a:AV):dZ:=
 match a with
 | .ptr b path=>match H[b]? with
  |some (.box fz t)=>match eL t path with
   |some s=>some (kindOf P T=ad s,{v:=s,aj:=[(b,.box fz t)]})
   |none=>none
  |_=>none
 | .b6 b an ai i path=>match H[b]? with
  |some (.arr k d c es)=>match es[i]? with
   |some x=>match eL x path with
    |some s=>some ((an=d/\ai=c)/\kindOf P T=ad s,{v:=s,aj:=[(b,.arr k d c es)]})
    |none=>none
   |none=>none
  |_=>none
 | .p (.cq t)=>some (kindOf P T=aL t,{v:=.p t})
 |_=>none
theorem WC{T:c8}{H:Heap}{a:AV}:Can (nM P T H a) (o8 P T H a):=by
 intro K h;unfold o8 at h;unfold nM
 split at h
 ·split at h
  ·rename_i b
   split at h
   ·rename_i hs;simp only[aZ]at h;simp only[b,hs];exact h
   ·exact h.elim
  ·exact h.elim
 ·split at h
  ·rename_i b
   split at h
   ·rename_i x hx;obtain⟨hi,hx⟩:=hR.1 hx
    split at h
    ·rename_i hs;simp only[aZ]at h;simp only[b];exact⟨h.1.1.1,h.1.1.2,hi,by rw[hx,hs];exact⟨h.1.2,h.2⟩⟩
    ·exact h.elim
   ·exact h.elim
  ·exact h.elim
 ·exact h
 ·exact h.elim
def oT(P:c9)(T:c8)(H:Heap)(a x:AV):dZ:=
 match a with
 | .ptr b path=>match H[b]? with
  |some (.box false t)=>match eL t path,fQ t path x with
   |some s,some d=>some ((kindOf P T=ad x/\ad x≠.bad)/\ad s=ad x,{v:=.p (.aE []),aj:=[(b,.box false t)],aG:=[(b,.box false d)]})
   |_,_=>none
  |_=>none
 | .b6 b an ai i path=>match H[b]? with
  |some (.arr k e c es)=>match es[i]? with
   |some y=>match eL y path,fQ y path x with
    |some s,some d=>some ((kindOf P T=ad x/\ad x≠.bad)/\(an=e/\ai=c/\k≠.frozen)/\ad s=ad x,{v:=.p (.aE []),aj:=[(b,.arr k e c es)],aG:=[(b,.arr k e c (es.set i d))]})
    |_,_=>none
   |none=>none
  |_=>none
 |_=>none
theorem Vn{T:c8}{H:Heap}{a x:AV}:Can (nA P T H a x) (oT P T H a x):=by
 intro K h;unfold oT at h;unfold nA
 split at h
 ·split at h
  ·rename_i b
   split at h
   ·rename_i hs c;simp only[aZ]at h;simp only[b,hs,c];exact⟨h.1.1.1,h.1.1.2,h.1.2,h.2⟩
   ·exact h.elim
  ·exact h.elim
 ·split at h
  ·rename_i b
   split at h
   ·rename_i y d;obtain⟨hi,d⟩:=hR.1 d
    split at h
    ·rename_i hs c;simp only[aZ]at h;simp only[b];exact⟨h.1.1.1,h.1.1.2,h.1.2.1.1,h.1.2.1.2.1,h.1.2.1.2.2,hi,by rw[d,hs,c];exact⟨h.1.2.2,h.2⟩⟩
    ·exact h.elim
   ·exact h.elim
  ·exact h.elim
 ·exact h.elim
def oB(P:c9)(T:c8)(a:AV)(f:Nat):dZ:=
 match fN P T with
 |some (u,n)=>match a with
  | .ptr b path=>some (f<n,{v:=.ptr b (path++[(u,f)])})
  | .b6 b an ai i path=>some (f<n,{v:=.b6 b an ai i (path++[(u,f)])})
  | .p (.cq t)=>match(cA t)[f]? with
   |some g=>some (f<n/\aL t=.agg u,{v:=.p (.cq g)})
   |none=>none
  |_=>none
 |_=>none
theorem RC{T:c8}{a:AV}{f:Nat}:Can (ni P T a f) (oB P T a f):=by
 intro K h;unfold oB at h;unfold ni
 split at h
 ·rename_i hs;simp only[hs]
  split at h
  ·exact h
  ·exact h
  ·split at h
   ·rename_i b;simp only[aZ]at h;simp only[b];exact⟨h.1.1,h.1.2,h.2⟩
   ·exact h.elim
  ·exact h.elim
 ·exact h.elim
def oA(P:c9)(T:c8)(H:Heap)(x i:AV):dZ:=
 match i with
 | .p (.int _ i)=>match x with
  | .p (.bE _ es)=>match es[i.toNat]? with
   |some y=>some (0<=i/\cQ P T=some (bB P (aL y)),{v:=.p (.cq y)})
   |none=>none
  | .p (.seq es)=>match es[i.toNat]? with
   |some y=>some (0<=i/\cQ P T=some (bB P (aL y)),{v:=.p (.cq y)})
   |none=>none
  | .sl b an ai off len=>match H[b]? with
   |some (.arr k c a es)=>some (0<=i/\cQ P T=some ai/\i.toNat<len/\an=c/\ai=a/\¬(k.gr=true/\es=[]),{v:=.b6 b an ai (off+i.toNat) [],aj:=[(b,.arr k c a es)]})
   |_=>none
  | .ptr b path=>match gU P T with
   |some (u,n)=>some (0<=i/\i.toNat<n,{v:=.ptr b (path++[(u,i.toNat)])})
   |_=>none
  | .b6 b an ai j path=>match gU P T with
   |some (u,n)=>some (0<=i/\i.toNat<n,{v:=.b6 b an ai j (path++[(u,i.toNat)])})
   |_=>none
  | .p (.cq t)=>match gU P T with
   |some (u,n)=>match(cA t)[i.toNat]? with
    |some g=>some (0<=i/\aL t=.agg u/\i.toNat<n,{v:=.p (.cq g)})
    |none=>none
   |_=>none
  |_=>none
 |_=>none
theorem RA{T:c8}{H:Heap}{x i:AV}:Can (nh P T H x i) (oA P T H x i):=by
 intro K h;unfold oA at h;unfold nh
 split at h
 case h_2=>exact h.elim
 split at h
 ·split at h
  ·rename_i y a;obtain⟨hi,a⟩:=hR.1 a;simp only[aZ]at h;exact⟨h.1.1,hi,by rw[a];exact h.1.2,by rw[a];exact h.2⟩
  ·exact h.elim
 ·split at h
  ·rename_i y a;obtain⟨hi,a⟩:=hR.1 a;simp only[aZ]at h;exact⟨h.1.1,hi,by rw[a];exact h.1.2,by rw[a];exact h.2⟩
  ·exact h.elim
 ·split at h
  ·rename_i l;simp only[aZ]at h;obtain⟨⟨b,c,d,e,f,g⟩,j⟩:=h;refine⟨b,c,d,?_⟩;rw[l];exact⟨e,f,g,j⟩
  ·exact h.elim
 ·split at h
  ·rename_i hs;simp only[aZ]at h;simp only[hs];exact⟨h.1.1,h.1.2,h.2⟩
  ·exact h.elim
 ·split at h
  ·rename_i hs;simp only[aZ]at h;simp only[hs];exact⟨h.1.1,h.1.2,h.2⟩
  ·exact h.elim
 ·split at h
  ·rename_i hs
   split at h
   ·rename_i k;simp only[aZ]at h;simp only[hs,k];exact⟨h.1.1,h.1.2.1,h.1.2.2,h.2⟩
   ·exact h.elim
  ·exact h.elim
 ·exact h.elim
end
section
variable{P:c9}{ah:dg->Bool}
def oS(P:c9)(T X:c8)(H:Heap)(s x:AV):dZ:=
 match cQ P T,gI H x with
 |some sz,some xs=>match s with
  | .p .aK=>some ((iy P X=true/\(cG P (dU P T)).isSome=true/\fc P sz xs)/\xs.length<=cF,
   if xs.isEmpty then{v:=s,aj:=dB H x}else{v:=.sl H.length 0 sz 0 xs.length,aj:=dB H x,aS:=[.arr (gk P T) 0 sz xs]})
  | .sl b an ai off len=>match H[b]? with
   |some (.arr k c a es)=>some ((iy P X=true/\(cG P (dU P T)).isSome=true/\fc P sz xs)/\(an=c/\ai=a/\ai=sz/\off+len<=es.length)/\es.length+xs.length<=cF/\k≠ .frozen/\(k≠ .exact->off=0)/\(k= .bytes->dU P T=Gl.u8),
    if xs.isEmpty then{v:=s,aj:=(b,.arr k c a es)::dB H x}
    else match k with
     | .exact=>if off+len+xs.length<=es.length then
      {v:=.sl b an ai off (len+xs.length),aj:=(b,.arr k c a es)::dB H x,aG:=[(b,.arr .exact an ai (es.take (off+len)++xs++es.drop (off+len+xs.length)))]}
      else{v:=.sl H.length 0 sz 0 (len+xs.length),aj:=(b,.arr k c a es)::dB H x,aS:=[.arr (gk P T) 0 sz ((es.drop off).take len++xs)]}
     |_=>{v:=.sl b (an+1) ai 0 (len+xs.length),aj:=(b,.arr k c a es)::dB H x,aG:=[(b,.arr k (an+1) ai (es.take len++xs))]})
   |_=>none
  |_=>none
 |_,_=>none
theorem S9{T X:c8}{H:Heap}{s x:AV}:Can (nq P T X H s x) (oS P T X H s x):=by
 intro K h;unfold oS at h;unfold nq
 split at h
 case h_2=>exact h.elim
 rename_i sz p i j;simp only[i,j]
 split at h
 ·simp only[aZ]at h;obtain⟨⟨⟨b,a2,a3⟩,a4⟩,hk⟩:=h;refine⟨b,a2,a3,?_⟩;dsimp only
  split
  ·rename_i a;rw[if_pos a]at hk;exact hk
  ·rename_i a;rw[if_neg a]at hk;exact⟨a4,hk⟩
 ·split at h
  case h_2=>exact h.elim
  rename_i k o n m l;simp only[aZ]at h;obtain⟨⟨⟨b,a2,a3⟩,⟨rfl,rfl,e,f⟩,g,a9,c,d⟩,hk⟩:=h;refine⟨b,a2,a3,?_⟩;simp only[l];refine⟨trivial,trivial,e,f,?_⟩
  split
  ·rename_i a;rw[if_pos a]at hk;exact hk
  ·rename_i a;rw[if_neg a]at hk;refine⟨g,?_⟩;cases k with
   |frozen=>exact a9 rfl
   |exact=>
    simp only at hk⊢
    split
    ·rename_i hc;rw[if_pos hc]at hk;exact hk
    ·rename_i hc;rw[if_neg hc]at hk;exact hk
   |grow=>exact⟨c s_,fun h=>(by cases h),hk⟩
   |bytes=>exact⟨c s_,d,hk⟩
 ·exact h.elim
def kx(x:Option AV)(d:Nat):Option (Prop×Nat):=
 match x with
 |none=>some (True,d)
 |some (.p (.int _ i))=>some (0<=i,i.toNat)
 |_=>none
theorem mq{x:Option AV}{d n:Nat}{p:Prop}{K:Nat->Prop}(h:kx x d=some (p,n))(a:p)(hk:K n):gB x d K:=by
 unfold kx at h;unfold gB
 split at h
 ·simp only[lv,l0]at h;obtain⟨rfl,rfl⟩:=h;exact hk
 ·simp only[lv,l0]at h;obtain⟨rfl,rfl⟩:=h;exact⟨a,hk⟩
 ·cases h
def oV(P:c9)(T:c8)(H:Heap)(x:AV)(lo hi:Option AV):dZ:=
 match x with
 | .p (.str s)=>match kx hi s.length,kx lo 0 with
  |some (p,h),some (q,l)=>some (iu P T=true/\p/\q/\h<=s.length/\l<=h,{v:=.p (.str ((s.take h).drop l))})
  |_,_=>none
 | .p .aK=>match kx hi 0,kx lo 0 with
  |some (p,h),some (q,l)=>some ((cQ P T).isSome=true/\p/\q/\h<=0/\l<=h,{v:=.p .aK})
  |_,_=>none
 | .p (.bE full es)=>match kx hi es.length,kx lo 0,cQ P T with
  |some (p,h),some (q,l),some sz=>some (p/\q/\h<=es.length/\l<=h/\fc P sz (es.map .p),{v:=.p (.bE (full&&h==es.length) ((es.take h).drop l))})
  |_,_,_=>none
 | .p (.seq es)=>match kx hi es.length,kx lo 0,cQ P T with
  |some (p,h),some (q,l),some sz=>some (p/\q/\h<=es.length/\l<=h/\fc P sz (es.map .p),{v:=.p (.seq ((es.take h).drop l))})
  |_,_,_=>none
 | .sl b an ai off len=>match H[b]? with
  |some (.arr k c a es)=>match kx hi len,kx lo 0 with
   |some (p,h),some (q,l)=>some ((an=c/\ai=a/\cQ P T=some ai/\¬(k.gr=true/\es=[])/\off+len<=es.length)/\p/\q/\off+h<=es.length/\l<=h,
    if l=0 then{v:=.sl b an ai off h,aj:=[(b,.arr k c a es)]}
    else if l=h then{v:=.p (.bE false []),aj:=[(b,.arr k c a es)]}
    else{v:=.sl b an ai (off+l) (h-l),aj:=[(b,.arr k c a es)]})
   |_,_=>none
  |_=>none
 |_=>none
theorem Vo{T:c8}{H:Heap}{x:AV}{lo hi:Option AV}:Can (nB P T H x lo hi none) (oV P T H x lo hi):=by
 intro K h;unfold oV at h;unfold nB;refine⟨rfl,?_⟩
 split at h
 ·split at h
  case h_2=>exact h.elim
  rename_i a b;simp only[aZ]at h;obtain⟨⟨c,a2,a3,a4,a5⟩,hk⟩:=h;exact⟨c,mq a a2 (mq b a3 ⟨a4,a5,hk⟩)⟩
 ·split at h
  case h_2=>exact h.elim
  rename_i a b;simp only[aZ]at h;obtain⟨⟨c,a2,a3,a4,a5⟩,hk⟩:=h;exact⟨c,mq a a2 (mq b a3 ⟨a4,a5,hk⟩)⟩
 ·split at h
  case h_2=>exact h.elim
  rename_i a b e;simp only[aZ]at h;obtain⟨⟨a2,a3,a4,a5,d⟩,hk⟩:=h;refine mq a a2 (mq b a3 ⟨a4,a5,?_⟩);simp only[e];exact⟨d,hk⟩
 ·split at h
  case h_2=>exact h.elim
  rename_i a b e;simp only[aZ]at h;obtain⟨⟨a2,a3,a4,a5,d⟩,hk⟩:=h;refine mq a a2 (mq b a3 ⟨a4,a5,?_⟩);simp only[e];exact⟨d,hk⟩
 ·split at h
  case h_2=>exact h.elim
  rename_i i
  split at h
  case h_2=>exact h.elim
  rename_i a b;simp only[aZ]at h;obtain⟨⟨⟨c,a2,a3,a4,a5⟩,d,f,g,a9⟩,hk⟩:=h;simp only[i];refine⟨c,a2,a3,a4,a5,mq a d (mq b f ⟨g,a9,?_⟩)⟩
  split
  ·rename_i hc;rw[if_pos hc]at hk;exact hk
  ·rename_i hc;rw[if_neg hc]at hk
   split
   ·rename_i hc;rw[if_pos hc]at hk;exact hk
   ·rename_i hc;rw[if_neg hc]at hk;exact hk
 ·exact h.elim
def qM(P:c9)(T:c8)(H:Heap)(x key:AV)(ok:Bool):dZ:=
 match jk P T,key with
 |some (a,E),.p key=>match cG P E with
  |some z=>match x with
   | .p .fx=>some (eO P a key=true,{v:=.p (if ok then .aE [z,.bool false]else z)})
   | .p (.eS es)=>match fT P a es key with
    |some r=>some (eO P a key=true,{v:= .p (match r with
      |some v=>if ok then .aE [v,.bool true]else v
      |none=>if ok then .aE [z,.bool false]else z)})
    |none=>none
   | .map b=>match H[b]? with
    |some (.map fz es)=>match fT P a es key with
     |some r=>some (eO P a key=true,{v:= .p (match r with
       |some v=>if ok then .aE [v,.bool true]else v
       |none=>if ok then .aE [z,.bool false]else z),aj:=[(b,.map fz es)]})
     |none=>none
    |some (.cT ks vs)=>match jw P a ks vs key with
     |some r=>some (eO P a key=true/\kS key=true,{v:=mS ok z r,aj:=[(b,.cT ks vs)]})
     |none=>none
    |_=>none
   |_=>none
  |none=>none
 |_,_=>none
def vG(P:c9)(a:c8)(b:Nat)(key:PV)(x:AV)(o:Obj):dZ:=
 match oi o with
 |some (ks,vs)=>match jw P a ks vs key with
  |some none=>some (eO P a key=true/\kS key=true,{v:=.p (.aE []),aj:=[(b,o)],aG:=[(b,.cT (ks++[key]) (vs++[x]))]})
  |_=>none
 |none=>none
def lW(P:c9)(T:c8)(H:Heap)(m k x:AV):dZ:=
 match jk P T,m,k,x with
 |some (a,_),.map b,.p key,.p v=>match H[b]? with
  |some (.map false es)=>match lM P a es key with
   |some _=>some (eO P a key=true,{v:=.p (.aE []),aj:=[(b,.map false es)],aG:=[(b,.map false (gA es key v))]})
   |none=>none
  |some (.cT ks vs)=>vG P a b key (.p v) (.cT ks vs)
  |_=>none
 |some (a,_),.map b,.p key,x=>match H[b]? with
  |some o=>vG P a b key x o
  |none=>none
 |_,_,_,_=>none
def qq(P:c9)(T:c8)(n:Nat)(x:AV):dZ:=
 match x with
 | .p (.str s)=>some (iu P T=true,{v:=.ptr n [],aS:=[.dx s 0]})
 |_=>none
def qU(H:Heap)(it:AV):dZ:=
 match it with
 | .ptr b []=>match H[b]? with
  |some (.dx s pos)=>some (True,if pos<s.length then
   {v:=.p (.aE [.bool true,.int .i64 pos,.int .i32 (hM (gu s) pos).1]),aj:=[(b,.dx s pos)],aG:=[(b,.dx s (pos+(hM (gu s) pos).2))]}
   else{v:=.p (.aE [.bool false]),aj:=[(b,.dx s pos)]})
  |_=>none
 |_=>none
def qW(P:c9)(T:c8)(n:Nat)(l c:AV):dZ:=
 match cQ P T,cG P (dU P T),l,c with
 |some sz,some z,.p (.int .i64 l),.p (.int .i64 c)=>some (bB P (aL z)=sz/\0<=l/\l=c/\l<=cF,{v:=.sl n 0 sz 0 l.toNat,aS:=[.arr .exact 0 sz (hU l.toNat (.p z))]})
 |_,_,_,_=>none
def copyV(P:c9)(T:c8)(H:Heap)(d x:AV):dZ:=
 match cQ P T,d,gI H x with
 |some sz,.sl b an ai off len,some xs=>match H[b]? with
  |some (.arr k c a es)=>some ((ai=sz/\fc P sz xs)/\an=c/\ai=a/\k≠ .frozen/\off+len<=es.length/\¬(k.gr=true/\es=[]),
   {v:=.p (.int .i64 (min xs.length len:Nat)),aj:=(b,.arr k c a es)::dB H x,aG:=[(b,.arr k c a (es.take off++xs.take (min xs.length len)++es.drop (off+min xs.length len)))]})
  |_=>none
 |_,_,_=>none
def qh(x:AV):dZ:=
 match x with
 | .ptr _ _| .b6 _ _ _ _ _| .p (.cq _)=>some (True,{v:=x})
 |_=>none
def kD(b:Bool)(c:List AV):dZ:=
 match c with
 | .p (.int k a)::r=>match lF k b r a with
  |some n=>some (True,{v:=.p (.int k n)})
  |none=>none
 |_=>none
def qK(f:dg)(fi ca:List AV):dZ:=
 match eH fi,eH ca with
 |some a,some b=>some (True,{v:=.p (.func f a b)})
 |_,_=>some (True,{v:=.func f fi ca})
end
section
variable{P:c9}{ah:dg->Bool}
def qP(c a b:AV):dZ:=
 match c with
 | .p (.bool t)=>some (True,{v:=if t then a else b})
 |_=>none
def qz(P:c9)(T:c8)(n:Nat):dZ:=
 match cG P T with
 |some z=>some (kindOf P T=aL z/\aL z≠.bad/\jn T (aL z)=true,{v:=.ptr n [],aS:=[.box false (.p z)]})
 |none=>none
def tg(P:c9)(T:c8)(n:Nat)(x:AV):dZ:=some (kindOf P T=ad x/\ad x≠.bad/\jn T (ad x)=true,{v:=.ptr n [],aS:=[.box false x]})
def qx(P:c9)(T:c8)(a:List (Nat×AV)):dZ:=
 match kindOf P T,cG P T with
 | .agg u,some z=>match dF P u with
  |some l=>some (aL z=.agg u/\lE P l a,{v:=gV u (ir ((cA z).map .p) a)})
  |none=>none
 |_,_=>none
def pK(P:c9)(T:c8)(n:Nat)(a:List (Nat×AV))(b:Nat):dZ:=
 match cQ P T,cG P (dU P T)with
 |some sz,some z=>some (bB P (aL z)=sz/\n*sz<=1000000/\lE P (hU n sz) a,{v:=.sl b 0 sz 0 n,aS:=[.arr .exact 0 sz (ir (hU n (.p z)) a)]})
 |_,_=>none
def tA(op:dp)(k:eb)(a b:Int):Prop×PV:=
 match op with
 | .add=>(True,.int k (k.wrap (a+b)))
 | .sub=>(True,.int k (k.wrap (a-b)))
 | .mul=>(True,.int k (k.wrap (a*b)))
 | .quo=>(b≠0,.int k (k.wrap (a.tdiv b)))
 | .rem=>(b≠0,.int k (a.tmod b))
 | .and=>(True,.int k (k.wrap (cy k.bits a&&&cy k.bits b).toNat))
 | .or=>(True,.int k (k.wrap (cy k.bits a|||cy k.bits b).toNat))
 | .xor=>(True,.int k (k.wrap (cy k.bits a^^^cy k.bits b).toNat))
 | .andNot=>(True,.int k (k.wrap (cy k.bits a&&&~~~cy k.bits b).toNat))
 | .eql=>(True,.bool (a==b))
 | .neq=>(True,.bool (a !=b))
 | .lss=>(True,.bool (decide (a<b)))
 | .leq=>(True,.bool (decide (a<=b)))
 | .gtr=>(True,.bool (decide (a>b)))
 | .geq=>(True,.bool (decide (a>=b)))
 | .shl=>(0<=b,.int k (k.wrap (a*2^(min b.toNat k.bits))))
 | .shr=>(0<=b,.int k (a.fdiv (2^(min b.toNat k.bits))))
theorem YW{op:dp}{k:eb}{a b:Int}{K:PV->Prop}(h:(tA op k a b).1)(hk:K (tA op k a b).2):o7 op k a b K:=by
 cases op<;>simp only[tA,o7]at*<;>first|exact hk|exact⟨h,hk⟩
def DO(op:dp)(a b:List Nat):Option (Prop×PV):=
 match op with
 | .add=>some (a.length+b.length<9223372036854775808,.str (a++b))
 | .eql=>some (True,.bool (a==b))
 | .neq=>some (True,.bool (!(a==b)))
 | .lss=>some (True,.bool (jh a b))
 | .leq=>some (True,.bool (jh a b||a==b))
 | .gtr=>some (True,.bool (!(jh a b||a==b)))
 | .geq=>some (True,.bool (!(jh a b)))
 |_=>none
def jm(P:c9)(op:dp)(T:c8)(c:Bool)(H:Heap)(x y:AV):dZ:=
 match x,y with
 | .p (.int k a),.p (.int d b)=>some ((k=d\/op=.shl\/op=.shr)/\(tA op k a b).1,{v:=.p (tA op k a b).2})
 | .p (.str a),.p (.str b)=>match DO op a b with
  |some (p,v)=>some (p,{v:=.p v})
  |none=>none
 | .p (.bool a),.p (.bool b)=>match op with
  | .eql=>some (qm P T=true,{v:=.p (.bool (a==b))})
  | .neq=>some (qm P T=true,{v:=.p (.bool (!(a==b)))})
  |_=>none
 | .p (.st u fs),.p (.st u' gs)=>match fu P 9 T (.st u fs) (.st u' gs),op with
  |some r,.eql=>some (nR P T=true,{v:=.p (.bool r)})
  |some r,.neq=>some (nR P T=true,{v:=.p (.bool !r)})
  |_,_=>none
 |x,y=>match dA P T c y with
  |some k=>match cV H k x,op with
   |some r,.eql=>some (True,{v:=.p (.bool r),aj:=dB H x})
   |some r,.neq=>some (True,{v:=.p (.bool !r),aj:=dB H x})
   |_,_=>none
  |none=>none
theorem I1{op:dp}{T:c8}{c:Bool}{H:Heap}{x y:AV}{k:tO}{K:PV->Prop}(hk:dA P T c y=some k):kj P op T c H x y K=(match cV H k x,op with
  |some r,.eql=>K (.bool r)
  |some r,.neq=>K (.bool !r)
  |_,_=>False):=by
 have a:=hk;rcases H4 hk with⟨rfl,rfl,_⟩|⟨rfl,rfl,_⟩|⟨rfl,rfl,_⟩|⟨rfl,rfl,_⟩|⟨rfl,rfl,_⟩
 all_goals
  unfold kj;cases x with
  |p v=>
   cases v<;>simp only[a]<;>(generalize cV H _ _=r;cases r<;>cases op<;>rfl)
  |_=>simp only[a];(generalize cV H _ _=r;cases r<;>cases op<;>rfl)
theorem Xt{op:dp}{T:c8}{c:Bool}{H:Heap}{x y:AV}:Can (fun K=>kj P op T c H x y (fun v=>K {v:=.p v,aj:=dB H x})) (jm P op T c H x y):=by
 intro K h;unfold jm at h;unfold kj
 split at h
 ·exact⟨h.1.1,YW h.1.2 h.2⟩
 ·split at h
  ·rename_i p v a;simp only[aZ]at h;show o6 op _ _ _;unfold DO at a
   split at a<;>first
    |(simp only[lv,l0]at a
      obtain⟨b,d⟩:=a;rw[<-b,<-d]at h;simp only[o6]
      first|exact h.2|exact⟨h.1,h.2⟩)
    |cases a
  ·exact h.elim
 ·split at h
  ·exact⟨h.1,h.2⟩
  ·exact⟨h.1,h.2⟩
  ·exact h.elim
 ·split at h
  ·rename_i e;simp only[aZ]at h;simp only[e];exact⟨h.1,h.2⟩
  ·rename_i e;simp only[aZ]at h;simp only[e];exact⟨h.1,h.2⟩
  ·exact h.elim
 ·rename_i b d f g
  split at h
  case h_2=>exact h.elim
  rename_i k hk;clear b d f g;show kj P op T c H x y _;rw[I1 hk];generalize cV H k x=q at h⊢;cases q<;>cases op<;>first|exact h.elim|exact h.2
def rH(op:UnOp)(x:AV):dZ:=
 match op,x with
 | .not,.p (.bool b)=>some (True,{v:=.p (.bool (!b))})
 | .neg,.p (.int k n)=>some (True,{v:=.p (.int k (k.wrap (0-n)))})
 | .xor,.p (.int k n)=>some (True,{v:=.p (.int k (k.wrap (cy k.bits (if k.signed then -1 else k.max)^^^cy k.bits n).toNat))})
 |_,_=>none
def qI(P:c9)(S D:c8)(H:Heap)(x:AV):dZ:=
 match P.underlying S,P.underlying D,x with
 |some _,some (.int k),.p (.int _ n)=>some (True,{v:=.p (.int k (k.wrap n))})
 |some _,some .string,.p (.str s)=>some (True,{v:=.p (.str s)})
 |some (.slice e),some .string,.sl b an ai off len=>match H[b]? with
  |some (.arr k c a es)=>match bytesOf ((es.drop off).take len)with
   |some l=>some ((an=c/\ai=a/\ai=1/\P.underlying e=some (.int .u8)/\0<len/\off+len<=es.length),{v:=.p (.str l),aj:=[(b,.arr k c a es)]})
   |none=>none
  |_=>none
 |_,_,_=>none
def pW(t:AV)(i:Nat):dZ:=
 match t with
 | .p (.aE vs)=>match vs[i]? with
  |some v=>some (True,{v:=.p v})
  |none=>none
 | .aE vs=>match vs[i]? with
  |some v=>some (True,{v})
  |none=>none
 |_=>none
def qB(P:c9)(T:c8)(x i:AV):dZ:=
 match x,i with
 | .p (.str s),.p (.int _ i)=>match s[i.toNat]? with
  |some c=>some (iu P T=true/\0<=i,{v:=.p (.int .u8 c)})
  |none=>none
 | .p (.st u es),.p (.int _ i)=>match gU P T,(jy P u)[i.toNat]?,es[i.toNat]? with
  |some (u',n),some F,some g=>some (u'=u/\0<=i/\i.toNat<n/\kindOf P F=aL g,{v:=.p g})
  |_,_,_=>none
 |_,_=>none
def rp(P:c9)(T:c8)(n:Nat)(H:Heap)(x:AV):dZ:=
 match lenOf H x with
 |some (m,aj)=>some (gQ P T x=true/\0<n,{v:=.p (.int .i64 m),aj})
 |none=>none
def kF(P:c9)(ah:dg->Bool)(o:Oper)(e:Env)(H:Heap)(K:aU->Prop):Prop:=
 match o.op with
 | .move x| .assign x=>K {v:=ev e x}
 | .pick c a b=>aZ (qP (ev e c) (ev e a) (ev e b)) K
 | .alloc T=>aZ (qz P T H.length) K
 | .box T x=>aZ (tg P T H.length (ev e x)) K
 | .build T parts=>aZ (qx P T (parts.toList.map fun(i,x)=>(i,ev e x))) K
 | .buildSlice T n parts=>aZ (pK P T n (parts.toList.map fun(i,x)=>(i,ev e x)) H.length) K
 | .load T a=>aZ (o8 P T H (ev e a)) K
 | .store T a x=>aZ (oT P T H (ev e a) (ev e x)) K
 | .binOp op T x y _=>aZ (jm P op T (lX y) H (ev e x) (ev e y)) K
 | .unOp op _ x=>aZ (rH op (ev e x)) K
 | .convert S D x=>aZ (qI P S D H (ev e x)) K
 | .extract t i=>aZ (pW (ev e t) i) K
 | .fieldAddr T a f=>aZ (oB P T (ev e a) f) K
 | .indexAddr T x i=>aZ (oA P T H (ev e x) (ev e i)) K
 | .index T x i=>aZ (qB P T (ev e x) (ev e i)) K
 | .slice T x lo hi none=>aZ (oV P T H (ev e x) (lo.map (ev e)) (hi.map (ev e))) K
 | .lookup T x i ok=>aZ (qM P T H (ev e x) (ev e i) ok) K
 | .mapUpdate T m k x| .insert T m k x=>aZ (lW P T H (ev e m) (ev e k) (ev e x)) K
 | .range T x=>aZ (qq P T H.length (ev e x)) K
 | .next it true=>aZ (qU H (ev e it)) K
 | .makeSlice T l c=>aZ (qW P T H.length (ev e l) (ev e c)) K
 | .nilCheck x=>aZ (qh (ev e x)) K
 | .call c=>match c.callee with
  | .builtin .len=>(match c.args.toList with
   |[x]=>aZ (rp P (c.argTypes.getD 0 0) c.argTypes.size H (ev e x)) K
   |_=>False)
  | .builtin .append=>(match c.args.toList with
   |[s,x]=>c.argTypes.size=2/\aZ (oS P (c.argTypes.getD 0 0) (c.argTypes.getD 1 0) H (ev e s) (ev e x)) K
   |_=>False)
  | .builtin .copy=>(match c.args.toList with
   |[d,x]=>c.argTypes.size=2/\aZ (copyV P (c.argTypes.getD 0 0) H (ev e d) (ev e x)) K
   |_=>False)
  | .builtin .min=>aZ (kD false (c.args.toList.map (ev e))) K
  | .builtin .max=>aZ (kD true (c.args.toList.map (ev e))) K
  |_=>fy P ah o (ev e) H K
 |_=>fy P ah o (ev e) H K
theorem Gf{a:c8}{b:Nat}{key:PV}{x:AV}{c:Obj}{K:aU->Prop}(h:aZ (vG P a b key x c) K):eO P a key=true/\mf P a b key x c K:=by
 unfold vG at h;unfold mf
 split at h
 case h_2=>exact h.elim
 rename_i d
 split at h
 case h_2=>exact h.elim
 rename_i hl;simp only[d];exact⟨h.1.1,h.1.2,hl,h.2⟩
theorem MD{o:Oper}{e:Env}{H:Heap}{K:aU->Prop}(h:kF P ah o e H K):fy P ah o (ev e) H K:=by
 unfold kF at h;unfold fy;cases w:o.op<;>simp only[w]at h<;>simp only
 case move|assign=>exact h
 case pick c a b=>
  unfold qP at h
  split at h
  ·rename_i hc;simp only[hc];exact h.2
  ·exact h.elim
 case alloc T=>
  unfold qz at h
  split at h
  ·rename_i v;simp only[aZ]at h;simp only[v];exact⟨h.1.1,h.1.2.1,h.1.2.2,h.2⟩
  ·exact h.elim
 case box T x=>exact⟨h.1.1,h.1.2.1,h.1.2.2,h.2⟩
 case build T parts=>
  unfold qx at h
  split at h
  ·rename_i hk v
   split at h
   ·rename_i hl;simp only[aZ]at h;simp only[hk,v,hl];exact⟨h.1.1,h.1.2,h.2⟩
   ·exact h.elim
  ·exact h.elim
 case buildSlice T n parts=>
  unfold pK at h
  split at h
  ·rename_i hk v;simp only[aZ]at h;simp only[hk,v];exact⟨h.1.1,h.1.2.1,h.1.2.2,h.2⟩
  ·exact h.elim
 case load T a=>exact WC K h
 case store T a x=>exact Vn K h
 case binOp op T x y N=>exact Xt K h
 case unOp op T x=>
  unfold rH at h
  split at h
  ·rename_i hx;simp only[hx];exact h.2
  ·rename_i hx;simp only[hx];exact h.2
  ·rename_i hx;simp only[hx];exact h.2
  ·exact h.elim
 case convert S D x=>
  unfold qI at h
  split at h
  ·rename_i g j p;simp only[g,j,p];exact h.2
  ·rename_i g j p;simp only[g,j,p];exact h.2
  ·rename_i g j p
   split at h
   ·rename_i q
    split at h
    ·rename_i hl;obtain⟨⟨B,a2,a3,a4,a5,C⟩,h⟩:=h;simp only[g,j,p,q,hl];exact⟨B,a2,a3,a4,a5,C,h⟩
    ·exact h.elim
   ·exact h.elim
  ·exact h.elim
 case extract t i=>
  unfold pW at h
  split at h
  ·rename_i E
   split at h
   ·rename_i F;simp only[E,F];exact h.2
   ·exact h.elim
  ·rename_i E
   split at h
   ·rename_i F;simp only[E,F];exact h.2
   ·exact h.elim
  ·exact h.elim
 case fieldAddr T a f=>exact RC K h
 case indexAddr T x i=>exact RA K h
 case index T x i=>
  unfold qB at h
  split at h
  ·rename_i hx hi
   split at h
   ·rename_i c hc;obtain⟨J,rfl⟩:=hR.1 hc;simp only[hx,hi];exact⟨h.1.1,h.1.2,J,h.2⟩
   ·exact h.elim
  ·rename_i hx hi
   split at h
   ·rename_i g j p;obtain⟨⟨g1,g2,g3,g4⟩,h⟩:=h;simp only[hx,hi,g,j,p];exact⟨g1,g2,g3,g4,h⟩
   ·exact h.elim
  ·exact h.elim
 case slice T x lo hi M=>
  cases M with
  |none=>exact Vo K h
  |some m=>simp only[fy,w]at h;exact h
 case lookup T x i ok=>
  unfold qM at h
  split at h
  case h_2=>exact h.elim
  rename_i L hi;simp only[L,hi]
  split at h
  case h_2=>exact h.elim
  rename_i z v;simp only[v]
  split at h
  ·rename_i hx;simp only[hx];exact h
  ·rename_i O hx;simp only[hx]
   split at h
   case h_2=>exact h.elim
   rename_i r u;refine⟨h.1,?_⟩;simp only[u];cases r<;>exact h.2
  ·rename_i b hx;simp only[hx]
   split at h
   ·rename_i q
    split at h
    case h_2=>exact h.elim
    rename_i r u;refine⟨h.1,?_⟩;simp only[q,u];cases r<;>exact h.2
   ·rename_i q
    split at h
    case h_2=>exact h.elim
    rename_i r u;refine⟨h.1.1,?_⟩;simp only[q,u];refine⟨h.1.2,?_⟩;cases r<;>exact h.2
   ·exact h.elim
  ·exact h.elim
 case mapUpdate T m k x|insert T m k x=>
  unfold lW at h
  split at h
  ·rename_i g j p A;simp only[g,j,p,A]
   split at h
   ·rename_i q
    split at h
    case h_2=>exact h.elim
    rename_i u;refine⟨h.1,?_⟩;simp only[q,u];exact h.2
   ·rename_i q;have h:=Gf h;refine⟨h.1,?_⟩;simp only[q];exact h.2
   ·exact h.elim
  ·rename_i R Q g j p A;simp only[g,j,p,A]
   split at h
   case h_2=>exact h.elim
   rename_i q;have h:=Gf h;refine⟨h.1,?_⟩;simp only[q];exact h.2
  ·exact h.elim
 case range T x=>
  unfold qq at h
  split at h
  ·rename_i hx;simp only[hx];exact h
  ·exact h.elim
 case next it s=>
  cases s with
  |false=>simp only[fy,w]at h
  |true=>
   dsimp only at h⊢;unfold qU at h
   split at h
   case h_2=>exact h.elim
   rename_i hx;simp only[hx]
   split at h
   case h_2=>exact h.elim
   rename_i q;simp only[q];have h:=h.2
   split
   ·rename_i hc;rw[if_pos hc]at h;exact h
   ·rename_i hc;rw[if_neg hc]at h;exact h
 case makeSlice T l c=>
  unfold qW at h
  split at h
  ·rename_i g j p A;simp only[g,j,p,A];exact⟨h.1.1,h.1.2.1,h.1.2.2.1,h.1.2.2.2,h.2⟩
  ·exact h.elim
 case nilCheck x=>
  unfold qh at h
  split at h
  ·rename_i hx;simp only[hx];rw[hx]at h;exact h.2
  ·rename_i hx;simp only[hx];rw[hx]at h;exact h.2
  ·rename_i hx;simp only[hx];rw[hx]at h;exact h.2
  ·exact h.elim
 case call c=>
  split at h
  ·rename_i hc
   split at h
   ·rename_i x hx;unfold rp at h
    split at h
    ·rename_i hl;simp only[aZ]at h;simp only[hc,hx,hV,h7,hl];exact⟨h.1.1,h.1.2,h.2⟩
    ·exact h.elim
   ·exact h.elim
  ·rename_i hc
   split at h
   ·rename_i s x hx;simp only[hc,hx,hV,h7];exact⟨h.1,S9 K h.2⟩
   ·exact h.elim
  ·rename_i hc
   split at h
   ·rename_i d x hx;simp only[hc,hx,hV,h7];obtain⟨I,h⟩:=h;unfold copyV at h
    split at h
    case h_2=>exact h.elim
    rename_i g j p
    split at h
    case h_2=>exact h.elim
    rename_i q;simp only[aZ]at h;obtain⟨⟨⟨B,a2⟩,a3,a4,a5,C,G⟩,hk⟩:=h;simp only[g,j,p,q];exact⟨B,a2,I,a3,a4,a5,C,G,hk⟩
   ·exact h.elim
  ·rename_i hc;unfold kD at h
   split at h
   case h_2=>exact h.elim
   rename_i hx
   split at h
   case h_2=>exact h.elim
   rename_i u;simp only[hc,hx,u];exact h.2
  ·rename_i hc;unfold kD at h
   split at h
   case h_2=>exact h.elim
   rename_i hx
   split at h
   case h_2=>exact h.elim
   rename_i u;simp only[hc,hx,u];exact h.2
  ·unfold fy at h;simp only[w]at h;exact h
 all_goals first
  |exact h
  |(unfold fy at h
    simp only[w]at h;exact h)
  |(unfold fy at h
    simp only[w]at h)
end
section
variable{P:c9}{ah:dg->Bool}
def dW(dst:Option Tmp)(s:St)(K:St->Prop)(e:aU):Prop:=K (e.app dst s)
def zz(dst:Option Tmp)(s:St)(K:St->Prop)(v:AV)(H:Heap):Prop:=K ⟨put dst v s.env,H⟩
def qJ(P:c9)(f:AV)(args:List AV)(H:Heap)(K:AV->Heap->Prop):Prop:=
 match f with
 | .p (.func g fi ca)=>gM P false g (fi.map .p++args++ca.map .p) H K
 | .func g fi ca=>gM P false g (fi++args++ca) H K
 | .map b=>∃H' v,iw P b H args H' v/\K v H'
 |_=>False
def qw(P:c9)(f:AV)(args:List AV)(H:Heap)(K:aU->Prop):Prop:=
 match f with
 | .p (.func g fi ca)=>gT P g (fi.map .p++args++ca.map .p) H K
 | .func g fi ca=>gT P g (fi++args++ca) H K
 | .map b=>∃e,sP P b args H.length e/\pc H e/\K e
 |_=>False
def dt(P:c9)(ah:dg->Bool)(o:Oper)(K:St->Prop)(s:St):Prop:=
 match o.op with
 | .call {callee:=.value f,args,.. }=>qJ P (ev s.env f) (args.toList.map (ev s.env)) s.heap (zz o.dst s K)
 |_=>kF P ah o s.env s.heap (dW o.dst s K)
def du(P:c9)(ah:dg->Bool)(o:Oper)(s:St)(K:aU->Prop):Prop:=
 match o.op with
 | .call {callee:=.value f,args,.. }=>qw P (ev s.env f) (args.toList.map (ev s.env)) s.heap K
 |_=>kF P ah o s.env s.heap K
theorem UB{o:Oper}{K:St->Prop}{s:St}(h:dt P ah o K s):jE P ah false o K s:=by
 unfold dt at h;unfold jE
 split at h
 ·rename_i f args b a;simp only[a];unfold qJ at h
  split at h
  ·rename_i hf;simp only[hf];exact h
  ·rename_i hf;simp only[hf];exact h
  ·rename_i hf;simp only[hf];exact h
  ·exact h.elim
 ·rename_i c
  split
  ·rename_i f args b a;exact(c _ _ _ a).elim
  ·exact MD h
theorem UI{o:Oper}{K:aU->Prop}{s:St}(h:du P ah o s K):jq P ah o s K:=by
 unfold du at h;unfold jq
 split at h
 ·rename_i f args b a;simp only[a];unfold qw at h
  split at h
  ·rename_i hf;simp only[hf];exact h
  ·rename_i hf;simp only[hf];exact h
  ·rename_i hf;simp only[hf];exact h
  ·exact h.elim
 ·rename_i c
  split
  ·rename_i f args b a;exact(c _ _ _ a).elim
  ·exact MD h
def fW(P:c9)(ah:dg->Bool)(a:Array Oper):List Oper->(St->Prop)->St->Prop
 |[],K,s=>K s
 |o::r,K,s=>match o.guard with
  |none=>dt P ah o (fW P ah a r K) s
  |some (j,want)=>match guardOf a j s.env with
   | .p (.bool t)=>if t=want then dt P ah o (fW P ah a r K) s else fW P ah a r K ⟨put o.dst (.p (.aE [])) s.env,s.heap⟩
   | .p (.aE [])=>fW P ah a r K ⟨put o.dst (.p (.aE [])) s.env,s.heap⟩
   |_=>False
def gn(P:c9)(ah:dg->Bool)(a:Array Oper):List Oper->Nat->List Touch->(St->Prop)->St->Prop
 |[],_,acc,K,s=>jZ a acc=true/\K s
 |o::r,i,acc,K,s=>match o.guard with
  |none=>du P ah o s fun e=>gn P ah a r (i+1) (gO i s.heap.length e acc) K (e.app o.dst s)
  |some (j,want)=>match guardOf a j s.env with
   | .p (.bool t)=>if t=want then du P ah o s fun e=>gn P ah a r (i+1) (gO i s.heap.length e acc) K (e.app o.dst s)
    else gn P ah a r (i+1) acc K ⟨put o.dst (.p (.aE [])) s.env,s.heap⟩
   | .p (.aE [])=>gn P ah a r (i+1) acc K ⟨put o.dst (.p (.aE [])) s.env,s.heap⟩
   |_=>False
theorem ye{b:Array Oper}:∀(l:List Oper){K a:St->Prop}{s:St},(∀s,K s->a s)->fW P ah b l K s->gP P ah false b l a s
 |[],K,a,s,hk,h=>by simp only[fW]at h;simp only[gP];exact hk s h
 |o::l,K,a,s,hk,h=>by
  have go:dt P ah o (fW P ah b l K) s->jE P ah false o (gP P ah false b l a) s:=fun h=>by
   obtain⟨t,f,g⟩:=IF false o s _ (UB h);exact g _ (ye l hk f)
  simp only[fW]at h;simp only[gP]
  split at h
  ·rename_i c;simp only[c];exact go h
  ·rename_i j i c;simp only[c]
   split at h
   ·rename_i t d;simp only[d]
    split at h
    ·rename_i e;rw[if_pos e];exact go h
    ·rename_i e;rw[if_neg e];exact ye l hk h
   ·rename_i d;simp only[d];exact ye l hk h
   ·exact h.elim
theorem xE{c:Array Oper}:∀(l:List Oper){i:Nat}{a:List Touch}{K b:St->Prop}{s:St},(∀s,K s->b s)->gn P ah c l i a K s->gh P ah c l i a b s
 |[],i,a,K,b,s,hk,h=>by simp only[gn]at h;simp only[gh];exact⟨h.1,hk s h.2⟩
 |o::l,i,a,K,b,s,hk,h=>by
  have go:du P ah o s (fun e=>gn P ah c l (i+1) (gO i s.heap.length e a) K (e.app o.dst s))->jq P ah o s (fun e=>gh P ah c l (i+1) (gO i s.heap.length e a) b (e.app o.dst s)):=fun h=>by
   obtain⟨e,k,m⟩:=IG o s _ (UI h);exact m _ (xE l hk k)
  simp only[gn]at h;simp only[gh]
  split at h
  ·rename_i d;simp only[d];exact go h
  ·rename_i j n d;simp only[d]
   split at h
   ·rename_i t f;simp only[f]
    split at h
    ·rename_i g;rw[if_pos g];exact go h
    ·rename_i g;rw[if_neg g];exact xE l hk h
   ·rename_i f;simp only[f];exact xE l hk h
   ·exact h.elim
def sV(v:AV)(a b:St->Prop)(s:St):Prop:=
 match v with
 | .p (.bool t)=>if t then a s else b s
 |_=>False
def tH(K:St->Prop)(Q:bp->St->Prop)(e:bp)(s:St):Prop:=
 match e with
 | .normal=>K s
 |e=>Q e s
def dj(P:c9)(ah:dg->Bool)(q:Cx):Code->(bp->St->Prop)->St->Prop
 | .skip,Q,s| .label _,Q,s=>Q .normal s
 | .region _ ops draw,Q,s=>if draw then gn P ah ops ops.toList 0 [] (Q .normal) s else fW P ah ops ops.toList (Q .normal) s
 | .seq a b,Q,s=>dj P ah q a (tH (dj P ah q b Q) Q) s
 | .cond c a b,Q,s=>sV (ev s.env c) (dj P ah q a Q) (dj P ah q b Q) s
 | .block id b,Q,s=>dj P ah q b (nK id Q) s
 | .scope b,Q,s=>dj P ah q b Q s
 | .loop b,Q,s=>∃I:Nat->St->Prop,(∃n t,bC q.2 s t/\I n t)/\∀n t,I n t->dj P ah q b (sR q.2 n I Q) t
 | .rangeFunc f d a b,Q,s=>q.2<=s.heap.length/\jM P (ev s.env f) s.heap.length (s.heap++[.loop ⟨.ready,none,q.1,d.toList,a,b,s.env⟩]) (iT s.heap.length s.env Q)
 | .exit id,Q,s=>Q (.exit id) s
 | .ret,Q,s=>Q .ret s
 |_,_,_=>False
theorem UR{Q a:bp->St->Prop}(hq:∀e s,Q e s->a e s){j:Option Code}{s:St}(h:ki Q j s):ki a j s:=by
 unfold ki at h⊢
 split at h
 ·exact hq _ _ h
 ·exact hq _ _ h
 ·exact hq _ _ h
 ·exact h.elim
theorem Ip{Q a:bp->St->Prop}(hq:∀e s,Q e s->a e s){b:Nat}{env:Env}{H:Heap}(h:iT b env Q H):iT b env a H:=by
 unfold iT at h⊢
 split at h
 ·exact⟨h.1,UR hq h.2⟩
 ·exact h.elim
theorem Ij{it:AV}{b:Nat}{H:Heap}{K d:Heap->Prop}(hk:∀H,K H->d H)(h:jM P it b H K):jM P it b H d:=by
 unfold jM at h⊢
 split at h
 ·obtain⟨H',v,a,c⟩:=h;exact⟨H',v,a,hk _ c⟩
 ·obtain⟨H',v,a,c⟩:=h;exact⟨H',v,a,hk _ c⟩
 ·exact h.elim
theorem lx{q:Cx}:∀(c:Code){Q Q':bp->St->Prop}{s:St},(∀e s,Q e s->Q' e s)->dj P ah q c Q s->b9 P ah q c Q' s
 | .skip,Q,Q',s,hq,h| .label _,Q,Q',s,hq,h=>by simp only[dj]at h;simp only[b9];exact hq _ _ h
 | .exit _,Q,Q',s,hq,h| .ret,Q,Q',s,hq,h=>by simp only[dj]at h;simp only[b9];exact hq _ _ h
 | .region id ops draw,Q,Q',s,hq,h=>by
  simp only[dj]at h;simp only[b9]
  split at h
  ·rename_i j;rw[if_pos j];exact xE _ (hq _) h
  ·rename_i j;rw[if_neg j];exact ye _ (hq _) h
 | .seq a b,Q,Q',s,hq,h=>by
  simp only[dj]at h;simp only[b9];refine lx a (fun e s d=>?_) h;cases e with
  |normal=>exact lx b hq d
  |exit id=>exact hq _ _ d
  |ret=>exact hq _ _ d
 | .cond c a b,Q,Q',s,hq,h=>by
  simp only[dj]at h;simp only[b9];unfold sV at h
  split at h
  ·rename_i t m;simp only[m]
   split at h
   ·rename_i g;rw[if_pos g];exact lx a hq h
   ·rename_i g;rw[if_neg g];exact lx b hq h
  ·exact h.elim
 | .block id b,Q,Q',s,hq,h=>by
  simp only[dj]at h;simp only[b9];refine lx b (fun e s d=>?_) h;cases e with
  |normal=>exact hq _ _ d
  |exit i=>
   simp only[nK]at d
   by_cases hi:i=id
   ·simp only[hi,if_true]at d⊢;exact hq _ _ d
   ·simp only[hi,if_false]at d⊢;exact hq _ _ d
  |ret=>exact hq _ _ d
 | .scope b,Q,Q',s,hq,h=>by simp only[dj]at h;simp only[b9];exact lx b hq h
 | .loop b,Q,Q',s,hq,h=>by
  simp only[dj]at h;simp only[b9];obtain⟨I,k,l⟩:=h;refine⟨I,k,fun n t hI=>lx b (fun e s d=>?_) (l n t hI)⟩;cases e with
  |normal=>exact d
  |exit id=>exact hq _ _ d
  |ret=>exact hq _ _ d
 | .rangeFunc f o a b,Q,Q',s,hq,h=>by
  simp only[dj]at h;simp only[b9];exact⟨h.1,s.env,fun _=>rfl,Ij (fun H=>Ip hq) h.2⟩
 | .goto _,_,_,_,_,h| .refuse _,_,_,_,_,h=>by simp[dj]at h
end
section
variable{P:c9}{ah:dg->Bool}{q:Cx}
theorem L6{Q:bp->St->Prop}{s:St}:dj P ah q .skip Q s=Q .normal s:=(rfl)
theorem KQ{l:Nat}{Q:bp->St->Prop}{s:St}:dj P ah q (.label l) Q s=Q .normal s:=(rfl)
theorem L7{id:Nat}{Q:bp->St->Prop}{s:St}:dj P ah q (.exit id) Q s=Q (.exit id) s:=(rfl)
theorem PD{Q:bp->St->Prop}{s:St}:dj P ah q .ret Q s=Q .ret s:=(rfl)
theorem KM{b:Code}{Q:bp->St->Prop}{s:St}:dj P ah q (.scope b) Q s=dj P ah q b Q s:=(rfl)
theorem L8{id:Nat}{l:List Oper}{Q:bp->St->Prop}{s:St}:dj P ah q (.region id l.toArray true) Q s=gn P ah l.toArray l 0 [] (Q .normal) s:=by simp[dj]
theorem KP{id:Nat}{l:List Oper}{Q:bp->St->Prop}{s:St}:dj P ah q (.region id l.toArray false) Q s=fW P ah l.toArray l (Q .normal) s:=by simp[dj]
theorem PE{a b:Code}{Q:bp->St->Prop}{s:St}:dj P ah q (.seq a b) Q s=dj P ah q a (tH (dj P ah q b Q) Q) s:=(rfl)
theorem KR{id:Nat}{b:Code}{Q:bp->St->Prop}{s:St}:dj P ah q (.block id b) Q s=dj P ah q b (nK id Q) s:=(rfl)
theorem L9{c:c7}{a b:Code}{Q:bp->St->Prop}{s:St}:dj P ah q (.cond c a b) Q s=sV (ev s.env c) (dj P ah q a Q) (dj P ah q b Q) s:=(rfl)
theorem He{K:St->Prop}{Q:bp->St->Prop}{s:St}:tH K Q .normal s=K s:=(rfl)
theorem II{id:Nat}{K:St->Prop}{Q:bp->St->Prop}{s:St}:tH K Q (.exit id) s=Q (.exit id) s:=(rfl)
theorem JB{K:St->Prop}{Q:bp->St->Prop}{s:St}:tH K Q .ret s=Q .ret s:=(rfl)
theorem HE{t:Bool}{a b:St->Prop}{s:St}:sV (.p (.bool t)) a b s=if t then a s else b s:=(rfl)
def vt(P:c9)(ah:dg->Bool)(b:Array Oper)(r:List Oper)(i:Nat)(a:List Touch)(K:St->Prop)(dst:Option Tmp)(s:St)(e:aU):Prop:=
 gn P ah b r (i+1) (gO i s.heap.length e a) K (e.app dst s)
theorem J2{b:Array Oper}{r:List Oper}{i:Nat}{a:List Touch}{K:St->Prop}{dst:Option Tmp}{env:Env}{heap:Heap}{v:AV}{aj aG:List (Nat×Obj)}{aS:List Obj}:
 vt P ah b r i a K dst ⟨env,heap⟩ ⟨v,aj,aG,aS⟩=gn P ah b r (i+1) (gO i heap.length ⟨v,aj,aG,aS⟩ a) K ⟨put dst v env,aX heap aG++aS⟩:=(rfl)
theorem LD{dst:Option Tmp}{env:Env}{heap:Heap}{K:St->Prop}{v:AV}{aj aG:List (Nat×Obj)}{aS:List Obj}:dW dst ⟨env,heap⟩ K ⟨v,aj,aG,aS⟩=K ⟨put dst v env,aX heap aG++aS⟩:=(rfl)
theorem Ld{dst:Option Tmp}{env:Env}{heap H:Heap}{K:St->Prop}{v:AV}:zz dst ⟨env,heap⟩ K v H=K ⟨put dst v env,H⟩:=(rfl)
def yi(P:c9)(ah:dg->Bool)(b:Array Oper)(o:Oper)(r:List Oper)(i:Nat)(a:List Touch)(K:St->Prop)(c:Bool)(s:St)(g:AV):Prop:=
 match g with
 | .p (.bool t)=>if t=c then du P ah o s (vt P ah b r i a K o.dst s)else gn P ah b r (i+1) a K ⟨put o.dst (.p (.aE [])) s.env,s.heap⟩
 | .p (.aE [])=>gn P ah b r (i+1) a K ⟨put o.dst (.p (.aE [])) s.env,s.heap⟩
 |_=>False
def yB(P:c9)(ah:dg->Bool)(a:Array Oper)(o:Oper)(r:List Oper)(K:St->Prop)(b:Bool)(s:St)(g:AV):Prop:=
 match g with
 | .p (.bool t)=>if t=b then dt P ah o (fW P ah a r K) s else fW P ah a r K ⟨put o.dst (.p (.aE [])) s.env,s.heap⟩
 | .p (.aE [])=>fW P ah a r K ⟨put o.dst (.p (.aE [])) s.env,s.heap⟩
 |_=>False
theorem L5{b:Array Oper}{i:Nat}{a:List Touch}{K:St->Prop}{s:St}:gn P ah b [] i a K s=(jZ b a=true/\K s):=(rfl)
theorem KL{b:Array Oper}{i c:Nat}{pos:String}{a:List Touch}{K:St->Prop}{s:St}{dst:Option Tmp}{op:Op}{af:Array Edge}{r:List Oper}:
 gn P ah b ({dst,op,type:=c,pos,after:=af,guard:=none}::r) i a K s=du P ah {dst,op,type:=c,pos,after:=af,guard:=none} s (vt P ah b r i a K dst s):=(rfl)
theorem JG{a:Array Oper}{i d j:Nat}{b:Bool}{pos:String}{c:List Touch}{K:St->Prop}{s:St}{dst:Option Tmp}{op:Op}{af:Array Edge}{r:List Oper}:
 gn P ah a ({dst,op,type:=d,pos,after:=af,guard:=some (j,b)}::r) i c K s=yi P ah a {dst,op,type:=d,pos,after:=af,guard:=some (j,b)} r i c K b s (guardOf a j s.env):=(rfl)
theorem L3{a:Array Oper}{K:St->Prop}{s:St}:fW P ah a [] K s=K s:=(rfl)
theorem KJ{a:Array Oper}{b:Nat}{pos:String}{K:St->Prop}{s:St}{dst:Option Tmp}{op:Op}{af:Array Edge}{r:List Oper}:
 fW P ah a ({dst,op,type:=b,pos,after:=af,guard:=none}::r) K s=dt P ah {dst,op,type:=b,pos,after:=af,guard:=none} (fW P ah a r K) s:=(rfl)
theorem JF{a:Array Oper}{c j:Nat}{b:Bool}{pos:String}{K:St->Prop}{s:St}{dst:Option Tmp}{op:Op}{af:Array Edge}{r:List Oper}:
 fW P ah a ({dst,op,type:=c,pos,after:=af,guard:=some (j,b)}::r) K s=yB P ah a {dst,op,type:=c,pos,after:=af,guard:=some (j,b)} r K b s (guardOf a j s.env):=(rfl)
end
section C9
variable{P:c9}{ah:dg->Bool}{q:Cx}
end C9
section ops
variable{P:c9}{ah:dg->Bool}{dst:Option Tmp}{ty:Nat}{pos:String}{af:Array Edge}{g:Option (Nat×Bool)}{env:Env}{heap:Heap}{K:aU->Prop}{L:St->Prop}
theorem Nd{x:c7}:du P ah ⟨dst,.move x,ty,pos,af,g⟩ ⟨env,heap⟩ K=K {v:=ev env x}:=(rfl)
theorem J0{x:c7}:du P ah ⟨dst,.assign x,ty,pos,af,g⟩ ⟨env,heap⟩ K=K {v:=ev env x}:=(rfl)
theorem Nb{c a b:c7}:du P ah ⟨dst,.pick c a b,ty,pos,af,g⟩ ⟨env,heap⟩ K=aZ (qP (ev env c) (ev env a) (ev env b)) K:=(rfl)
theorem Lq{T:c8}:du P ah ⟨dst,.alloc T,ty,pos,af,g⟩ ⟨env,heap⟩ K=aZ (qz P T heap.length) K:=(rfl)
theorem NX{T:c8}{x:c7}:du P ah ⟨dst,.box T x,ty,pos,af,g⟩ ⟨env,heap⟩ K=aZ (tg P T heap.length (ev env x)) K:=(rfl)
theorem Lp{T:c8}{a:Array (Nat×c7)}:du P ah ⟨dst,.build T a,ty,pos,af,g⟩ ⟨env,heap⟩ K=aZ (qx P T (a.toList.map fun(i,x)=>(i,ev env x))) K:=(rfl)
theorem GP{T:c8}{n:Nat}{a:Array (Nat×c7)}:du P ah ⟨dst,.buildSlice T n a,ty,pos,af,g⟩ ⟨env,heap⟩ K=aZ (pK P T n (a.toList.map fun(i,x)=>(i,ev env x)) heap.length) K:=(rfl)
theorem MJ{T:c8}{a:c7}:du P ah ⟨dst,.load T a,ty,pos,af,g⟩ ⟨env,heap⟩ K=aZ (o8 P T heap (ev env a)) K:=(rfl)
theorem Lm{T:c8}{a x:c7}:du P ah ⟨dst,.store T a x,ty,pos,af,g⟩ ⟨env,heap⟩ K=aZ (oT P T heap (ev env a) (ev env x)) K:=(rfl)
theorem NW{op:dp}{T a:c8}{x y:c7}:du P ah ⟨dst,.binOp op T x y a,ty,pos,af,g⟩ ⟨env,heap⟩ K=aZ (jm P op T (lX y) heap (ev env x) (ev env y)) K:=(rfl)
theorem N2{op:UnOp}{T:c8}{x:c7}:du P ah ⟨dst,.unOp op T x,ty,pos,af,g⟩ ⟨env,heap⟩ K=aZ (rH op (ev env x)) K:=(rfl)
theorem ML{S D:c8}{x:c7}:du P ah ⟨dst,.convert S D x,ty,pos,af,g⟩ ⟨env,heap⟩ K=aZ (qI P S D heap (ev env x)) K:=(rfl)
theorem Jd{t:c7}{i:Nat}:du P ah ⟨dst,.extract t i,ty,pos,af,g⟩ ⟨env,heap⟩ K=aZ (pW (ev env t) i) K:=(rfl)
theorem Hg{T:c8}{a:c7}{f:Nat}:du P ah ⟨dst,.fieldAddr T a f,ty,pos,af,g⟩ ⟨env,heap⟩ K=aZ (oB P T (ev env a) f) K:=(rfl)
theorem Hf{T:c8}{x i:c7}:du P ah ⟨dst,.indexAddr T x i,ty,pos,af,g⟩ ⟨env,heap⟩ K=aZ (oA P T heap (ev env x) (ev env i)) K:=(rfl)
theorem Fi{T:c8}{x i:c7}:du P ah ⟨dst,.index T x i,ty,pos,af,g⟩ ⟨env,heap⟩ K=aZ (qB P T (ev env x) (ev env i)) K:=(rfl)
theorem NY{x:c7}{a:Array c8}:du P ah ⟨dst,.call {callee:=.builtin .len,args:=#[x],argTypes:=a},ty,pos,af,g⟩ ⟨env,heap⟩ K=aZ (rp P (a.getD 0 0) a.size heap (ev env x)) K:=(rfl)
theorem MM{f:c7}{args:List c7}{a:Array c8}:du P ah ⟨dst,.call {callee:=.value f,args:=args.toArray,argTypes:=a},ty,pos,af,g⟩ ⟨env,heap⟩ K=qw P (ev env f) (args.map (ev env)) heap K:=(rfl)
theorem Mw{x:c7}:dt P ah ⟨dst,.move x,ty,pos,af,g⟩ L ⟨env,heap⟩=dW dst ⟨env,heap⟩ L {v:=ev env x}:=(rfl)
theorem Jl{x:c7}:dt P ah ⟨dst,.assign x,ty,pos,af,g⟩ L ⟨env,heap⟩=dW dst ⟨env,heap⟩ L {v:=ev env x}:=(rfl)
theorem Mu{c a b:c7}:dt P ah ⟨dst,.pick c a b,ty,pos,af,g⟩ L ⟨env,heap⟩=aZ (qP (ev env c) (ev env a) (ev env b)) (dW dst ⟨env,heap⟩ L):=(rfl)
theorem K2{T:c8}:dt P ah ⟨dst,.alloc T,ty,pos,af,g⟩ L ⟨env,heap⟩=aZ (qz P T heap.length) (dW dst ⟨env,heap⟩ L):=(rfl)
theorem Pa{T:c8}{x:c7}:dt P ah ⟨dst,.box T x,ty,pos,af,g⟩ L ⟨env,heap⟩=aZ (tg P T heap.length (ev env x)) (dW dst ⟨env,heap⟩ L):=(rfl)
theorem K1{T:c8}{a:Array (Nat×c7)}:dt P ah ⟨dst,.build T a,ty,pos,af,g⟩ L ⟨env,heap⟩=aZ (qx P T (a.toList.map fun(i,x)=>(i,ev env x))) (dW dst ⟨env,heap⟩ L):=(rfl)
theorem GK{T:c8}{n:Nat}{a:Array (Nat×c7)}:dt P ah ⟨dst,.buildSlice T n a,ty,pos,af,g⟩ L ⟨env,heap⟩=aZ (pK P T n (a.toList.map fun(i,x)=>(i,ev env x)) heap.length) (dW dst ⟨env,heap⟩ L):=(rfl)
theorem Mx{T:c8}{a:c7}:dt P ah ⟨dst,.load T a,ty,pos,af,g⟩ L ⟨env,heap⟩=aZ (o8 P T heap (ev env a)) (dW dst ⟨env,heap⟩ L):=(rfl)
theorem Lf{T:c8}{a x:c7}:dt P ah ⟨dst,.store T a x,ty,pos,af,g⟩ L ⟨env,heap⟩=aZ (oT P T heap (ev env a) (ev env x)) (dW dst ⟨env,heap⟩ L):=(rfl)
theorem O9{op:dp}{T a:c8}{x y:c7}:dt P ah ⟨dst,.binOp op T x y a,ty,pos,af,g⟩ L ⟨env,heap⟩=aZ (jm P op T (lX y) heap (ev env x) (ev env y)) (dW dst ⟨env,heap⟩ L):=(rfl)
theorem Pe{op:UnOp}{T:c8}{x:c7}:dt P ah ⟨dst,.unOp op T x,ty,pos,af,g⟩ L ⟨env,heap⟩=aZ (rH op (ev env x)) (dW dst ⟨env,heap⟩ L):=(rfl)
theorem Mz{S D:c8}{x:c7}:dt P ah ⟨dst,.convert S D x,ty,pos,af,g⟩ L ⟨env,heap⟩=aZ (qI P S D heap (ev env x)) (dW dst ⟨env,heap⟩ L):=(rfl)
theorem Io{t:c7}{i:Nat}:dt P ah ⟨dst,.extract t i,ty,pos,af,g⟩ L ⟨env,heap⟩=aZ (pW (ev env t) i) (dW dst ⟨env,heap⟩ L):=(rfl)
theorem G7{T:c8}{a:c7}{f:Nat}:dt P ah ⟨dst,.fieldAddr T a f,ty,pos,af,g⟩ L ⟨env,heap⟩=aZ (oB P T (ev env a) f) (dW dst ⟨env,heap⟩ L):=(rfl)
theorem G6{T:c8}{x i:c7}:dt P ah ⟨dst,.indexAddr T x i,ty,pos,af,g⟩ L ⟨env,heap⟩=aZ (oA P T heap (ev env x) (ev env i)) (dW dst ⟨env,heap⟩ L):=(rfl)
theorem K0{T:c8}{x i:c7}:dt P ah ⟨dst,.index T x i,ty,pos,af,g⟩ L ⟨env,heap⟩=aZ (qB P T (ev env x) (ev env i)) (dW dst ⟨env,heap⟩ L):=(rfl)
theorem Pb{x:c7}{a:Array c8}:dt P ah ⟨dst,.call {callee:=.builtin .len,args:=#[x],argTypes:=a},ty,pos,af,g⟩ L ⟨env,heap⟩=aZ (rp P (a.getD 0 0) a.size heap (ev env x)) (dW dst ⟨env,heap⟩ L):=(rfl)
theorem MA{f:c7}{args:List c7}{a:Array c8}:dt P ah ⟨dst,.call {callee:=.value f,args:=args.toArray,argTypes:=a},ty,pos,af,g⟩ L ⟨env,heap⟩=qJ P (ev env f) (args.map (ev env)) heap (zz dst ⟨env,heap⟩ L):=(rfl)
theorem Ln{T:c8}{x:c7}{lo hi:Option c7}:du P ah ⟨dst,.slice T x lo hi none,ty,pos,af,g⟩ ⟨env,heap⟩ K=aZ (oV P T heap (ev env x) (lo.map (ev env)) (hi.map (ev env))) K:=(rfl)
theorem KY{T:c8}{x:c7}{lo hi:Option c7}:dt P ah ⟨dst,.slice T x lo hi none,ty,pos,af,g⟩ L ⟨env,heap⟩=aZ (oV P T heap (ev env x) (lo.map (ev env)) (hi.map (ev env))) (dW dst ⟨env,heap⟩ L):=(rfl)
theorem JY{T:c8}{x i:c7}{ok:Bool}:du P ah ⟨dst,.lookup T x i ok,ty,pos,af,g⟩ ⟨env,heap⟩ K=aZ (qM P T heap (ev env x) (ev env i) ok) K:=(rfl)
theorem Jj{T:c8}{x i:c7}{ok:Bool}:dt P ah ⟨dst,.lookup T x i ok,ty,pos,af,g⟩ L ⟨env,heap⟩=aZ (qM P T heap (ev env x) (ev env i) ok) (dW dst ⟨env,heap⟩ L):=(rfl)
theorem Hw{T:c8}{m k x:c7}:du P ah ⟨dst,.mapUpdate T m k x,ty,pos,af,g⟩ ⟨env,heap⟩ K=aZ (lW P T heap (ev env m) (ev env k) (ev env x)) K:=(rfl)
theorem G4{T:c8}{m k x:c7}:dt P ah ⟨dst,.mapUpdate T m k x,ty,pos,af,g⟩ L ⟨env,heap⟩=aZ (lW P T heap (ev env m) (ev env k) (ev env x)) (dW dst ⟨env,heap⟩ L):=(rfl)
theorem JZ{T:c8}{m k x:c7}:du P ah ⟨dst,.insert T m k x,ty,pos,af,g⟩ ⟨env,heap⟩ K=aZ (lW P T heap (ev env m) (ev env k) (ev env x)) K:=(rfl)
theorem Jk{T:c8}{m k x:c7}:dt P ah ⟨dst,.insert T m k x,ty,pos,af,g⟩ L ⟨env,heap⟩=aZ (lW P T heap (ev env m) (ev env k) (ev env x)) (dW dst ⟨env,heap⟩ L):=(rfl)
theorem Lo{T:c8}{x:c7}:du P ah ⟨dst,.range T x,ty,pos,af,g⟩ ⟨env,heap⟩ K=aZ (qq P T heap.length (ev env x)) K:=(rfl)
theorem KZ{T:c8}{x:c7}:dt P ah ⟨dst,.range T x,ty,pos,af,g⟩ L ⟨env,heap⟩=aZ (qq P T heap.length (ev env x)) (dW dst ⟨env,heap⟩ L):=(rfl)
theorem Nc{it:c7}:du P ah ⟨dst,.next it true,ty,pos,af,g⟩ ⟨env,heap⟩ K=aZ (qU heap (ev env it)) K:=(rfl)
theorem Mv{it:c7}:dt P ah ⟨dst,.next it true,ty,pos,af,g⟩ L ⟨env,heap⟩=aZ (qU heap (ev env it)) (dW dst ⟨env,heap⟩ L):=(rfl)
theorem Hx{T:c8}{l c:c7}:du P ah ⟨dst,.makeSlice T l c,ty,pos,af,g⟩ ⟨env,heap⟩ K=aZ (qW P T heap.length (ev env l) (ev env c)) K:=(rfl)
theorem G5{T:c8}{l c:c7}:dt P ah ⟨dst,.makeSlice T l c,ty,pos,af,g⟩ L ⟨env,heap⟩=aZ (qW P T heap.length (ev env l) (ev env c)) (dW dst ⟨env,heap⟩ L):=(rfl)
theorem HA{x:c7}:du P ah ⟨dst,.nilCheck x,ty,pos,af,g⟩ ⟨env,heap⟩ K=aZ (qh (ev env x)) K:=(rfl)
theorem HY{x:c7}:dt P ah ⟨dst,.nilCheck x,ty,pos,af,g⟩ L ⟨env,heap⟩=aZ (qh (ev env x)) (dW dst ⟨env,heap⟩ L):=(rfl)
theorem N1{args:Array c7}{a:Array c8}:du P ah ⟨dst,.call {callee:=.builtin .min,args,argTypes:=a},ty,pos,af,g⟩ ⟨env,heap⟩ K=aZ (kD false (args.toList.map (ev env))) K:=(rfl)
theorem Pd{args:Array c7}{a:Array c8}:dt P ah ⟨dst,.call {callee:=.builtin .min,args,argTypes:=a},ty,pos,af,g⟩ L ⟨env,heap⟩=aZ (kD false (args.toList.map (ev env))) (dW dst ⟨env,heap⟩ L):=(rfl)
theorem NZ{args:Array c7}{a:Array c8}:du P ah ⟨dst,.call {callee:=.builtin .max,args,argTypes:=a},ty,pos,af,g⟩ ⟨env,heap⟩ K=aZ (kD true (args.toList.map (ev env))) K:=(rfl)
theorem Pc{args:Array c7}{a:Array c8}:dt P ah ⟨dst,.call {callee:=.builtin .max,args,argTypes:=a},ty,pos,af,g⟩ L ⟨env,heap⟩=aZ (kD true (args.toList.map (ev env))) (dW dst ⟨env,heap⟩ L):=(rfl)
theorem Jc{T:c8}:du P ah ⟨dst,.makeMap T none,ty,pos,af,g⟩ ⟨env,heap⟩ K=K {v:=.map heap.length,aS:=[.map false []]}:=(rfl)
theorem IY{T:c8}:dt P ah ⟨dst,.makeMap T none,ty,pos,af,g⟩ L ⟨env,heap⟩=dW dst ⟨env,heap⟩ L {v:=.map heap.length,aS:=[.map false []]}:=(rfl)
theorem J1{s x:c7}{T X:c8}:du P ah ⟨dst,.call {callee:=.builtin .append,args:=#[s,x],argTypes:=#[T,X]},ty,pos,af,g⟩ ⟨env,heap⟩ K=aZ (oS P T X heap (ev env s) (ev env x)) K:=by simp[du,kF]
theorem Jm{s x:c7}{T X:c8}:dt P ah ⟨dst,.call {callee:=.builtin .append,args:=#[s,x],argTypes:=#[T,X]},ty,pos,af,g⟩ L ⟨env,heap⟩=aZ (oS P T X heap (ev env s) (ev env x)) (dW dst ⟨env,heap⟩ L):=by simp[dt,kF]
theorem MK{s x:c7}{T X:c8}:du P ah ⟨dst,.call {callee:=.builtin .copy,args:=#[s,x],argTypes:=#[T,X]},ty,pos,af,g⟩ ⟨env,heap⟩ K=aZ (copyV P T heap (ev env s) (ev env x)) K:=by simp[du,kF]
theorem My{s x:c7}{T X:c8}:dt P ah ⟨dst,.call {callee:=.builtin .copy,args:=#[s,x],argTypes:=#[T,X]},ty,pos,af,g⟩ L ⟨env,heap⟩=aZ (copyV P T heap (ev env s) (ev env x)) (dW dst ⟨env,heap⟩ L):=by simp[dt,kF]
theorem NR{f:dg}{fi ca:List AV}{args:List AV}{M:AV->Heap->Prop}:qJ P (.func f fi ca) args heap M=gM P false f (fi++args++ca) heap M:=(rfl)
theorem MN{f:dg}{fi ca:List AV}{args:List AV}:qw P (.func f fi ca) args heap K=gT P f (fi++args++ca) heap K:=(rfl)
theorem NT{f:dg}{fi ca:List PV}{args:List AV}{M:AV->Heap->Prop}:qJ P (.p (.func f fi ca)) args heap M=gM P false f (fi.map .p++args++ca.map .p) heap M:=(rfl)
theorem NU{f:dg}{fi ca:List PV}{args:List AV}:qw P (.p (.func f fi ca)) args heap K=gT P f (fi.map .p++args++ca.map .p) heap K:=(rfl)
end ops
section
variable{P:c9}
@[simp] theorem aHW{b:Bool}:aL (.bool b)=.leaf:=(rfl)
@[simp] theorem aIl{k:eb}{n:Int}:aL (.int k n)=.leaf:=(rfl)
@[simp] theorem aIq{l:List Nat}:aL (.str l)=.leaf:=(rfl)
@[simp] theorem aIm:aL .aK=.leaf:=(rfl)
@[simp] theorem aIn{l:List PV}:aL (.seq l)=.leaf:=(rfl)
@[simp] theorem aIp{u:c8}{fs:List PV}:aL (.st u fs)=.agg u:=(rfl)
@[simp] theorem aHT{v:PV}:ad (.p v)=aL v:=(rfl)
@[simp] theorem aHV{u:c8}{fs:List AV}:ad (.st u fs)=.agg u:=(rfl)
@[simp] theorem aHU{b v e o l:Nat}:ad (.sl b v e o l)=.leaf:=(rfl)
@[simp] theorem aHS{f:dg}{a b:List AV}:ad (.func f a b)=.leaf:=(rfl)
@[simp] theorem aGK{u:c8}{fs:List PV}:cA (.st u fs)=fs:=(rfl)
theorem UH{a:List ed}{Q:PV->Prop}{s:St}:y6 P a Q .ret s=∃vs,fC P s a=some vs/\∃v,dY s.heap 9 (oneOf vs)=some v/\Q v:=by simp[y6]
theorem Su{a:List ed}{Q:PV->Prop}{s:St}:y6 P a Q .normal s=∃vs,fC P s a=some vs/\∃v,dY s.heap 9 (oneOf vs)=some v/\Q v:=by simp[y6]
attribute [simp] UH Su jj L6 KQ L7 PD KM L8 KP PE KR L9 He II JB HE J2 LD Ld L5 KL L3 KJ JG JF
 Nd J0 Nb Lq NX Lp GP MJ Lm NW N2 ML Jd Hg Hf Fi NY MM
 Mw Jl Mu K2 Pa K1 GK Mx Lf O9 Pe Mz Io G7 G6 K0 Pb MA NT NU Ln KY JY Jj Hw G4 JZ Jk Lo KZ Nc Mv Hx G5 HA HY N1 Pd NZ Pc Jc IY J1 Jm MK My NR MN oS kx oV qM lW vG oi jw kS mS qq qU qW copyV qh kD gI dB fc eO jk po lM sG gk iu lF TY Uw
 RF S4 Ub Ru Sh TP
 aO put iI ev ofConst aX gO gZ nD eL kJ fQ gV eH qP qz tg jn qx pK jm tA DO rH qI pW qB rp o8 oT oB oA lenOf gQ ir lE bB
 lX fC oW oneOf dY
end
end Go.aw
