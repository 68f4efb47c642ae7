import Derived.Test.YtdjojlnnobkliaaGreatDoorTThA
import Derived.Lib.Strings
import Derived.Laws.Append
import Derived.Laws.StructEq
import Derived.Laws.Concat
import Derived.ChangeKeysEq
import Derived.MapKept
import Derived.Laws.RangeString
import Derived.Lib.UnsafeStr
import Derived.Laws.BytesArg
import Derived.Orders
/- Parts of a proof. -/
set_option linter.unusedSimpArgs false
set_option linter.unusedVariables false
set_option linter.unusedSectionVars false
open Array renaming getElem?_eq_some_iff->b0, getElem?_eq_getElem->b1, ext'->b2, getElem?_toList->b3, length_toList->b4, replicate->b5, toList_push->cb, getD_eq_getD_getElem?->cc, getElem?_push->cd, getD->ce
open BitVec renaming ofInt->ck
open Bool renaming and_eq_true->cx, or_eq_true->cy, false_eq_true->c6
open Go renaming run_underlying->c9, Operand->da, TypeId->db, Program->dd, Value->dg, execOp->dl, FuncId->dp, World->dq, MapEntry->dx, BinOp->dy, setRow_other->dz, run_storeCells_at->ea, setRow_heap->eb, IntKind->ec, TypeInfo->ed, ResultVar->ee, Frame->ei, Field->ej, Deferred->em, step_leave_returned->eo, run_firstCells_some->eq, mem_ready->er, TypeDesc->ew, getD_set_ne->ey, Steps->eM
open Go.Builtin renaming firstCells->eP, append_->e7, lenOf->e8, zeroCells->e9, clear_->fb, copy_->fd, unsafeString_->fl, nextslicecap->fm, min2->fv, max2->fw, unsafeSliceData_->gb, min_->gc, max_->ge, cap_->gg
open Go.ByteArray renaming toList_eq->gi
open Go.Call renaming operands->gj
open Go.Instr renaming findNow->gm, sliceBounds->gt, findAsking->gx, checkKey->gy, slice->g0, findKey->g7, mapUpdate->g8, sliceBound->g9, lookup->ha, sliceAt->hb, sameNow->hd, next->he
open Go.MapKept renaming run_getObj_map->hg, bytes_beq->hh
open Go.Op renaming operands->hj, equalIn->hl, equal->hm, bytesLess->ho, eqFields->hp, eqItems->ht, stringOp->hv
open Go.Region renaming ready->hw, wanted->hA, binds->hB, schedule->hC
open Go.Region.linearise renaming go->hD
open Go.Result renaming andThen_ok->hE, andThen->hF
open Go.Sem renaming run_bind->hG, run_pure->hH, run->hJ
open Go.Steps renaming one->hK, trans->hL, refl->hM
open Go.Utf8 renaming decode->hN
open Go.Value renaming oneCell'->hO, int->hP
open Go.World renaming freeze->hQ, cell?->hR
open List renaming getElem?_eq_some_iff->hS, getElem?_set_self->hT, length_append->hU, replicate->hV, map_cons->hW, append_nil->hX, mem_cons->hZ, getElem?_eq_getElem->h0, mem_of_mem_take->h2, mem_cons_of_mem->h3, getElem?_set_ne->h4, length_eq_zero_iff->h5, map_append->h6, mem_of_mem_drop->h7, map_nil->h8, all_eq_true->h9, size_toArray->ih, append_assoc->ii, contains_iff_mem->ik, any_eq_true->ip, flatten_append->ix, mem_singleton->iz, getElem?_append_left->iA, map_toArray->iB, take_of_length_le->i0, range->i4, map_map->i5, nil_append->i6, mem_append->i7, getElem?_eq_none->i8, drop_take->i9, replicate_succ->jp, map_congr_left->js, length_pos_iff->j1, getElem?_map->j2, length->j3, drop_zero->j4, map->j5, take_succ_cons->j6, mem_map_of_mem->j7, countP_congr->j8, countP_cons->j9, length_map->kb, sum_cons->kc, map_take->kd, mem_map->kf, map_id->kh
open Nat renaming le_refl->kk, lt_irrefl->km, lt_trichotomy->ko, add_zero->kp, zero_add->kv, le_add_right->kw, add_mul->kx, zero_le->kA, strongRecOn->kC, zero_mul->kF, succ_mul->kH, ne_of_lt->kL, le_total->kO
open Ne renaming symm->kP
open Option renaming isSome_iff_exists->kX, map_none->la, getD_some->lb, map_some->lc
open Option.some renaming injEq->le, inj->li
open PUnit renaming unit->lk
open Prod.mk renaming injEq->ll
open UInt8 renaming toNat_ofNat'->lm, toNat_inj->lq, ofNat->ls
namespace Go.ag
set_option linter.unusedSectionVars false
variable[Gl]
section
variable{P:dd}{w:dq}{ad ai:Nat->Prop}{β:Bd}{H:al}
variable{o:Oper}{ρ:da->AV}{base:Nat}
theorem mz{x:Option da}{d:Nat}{R:Nat->Prop}(h:iO (x.map ρ) d R):
 ∃n,R n/\((x=none/\n=d)\/∃y k,x=some y/\ρ y=.p (.int k n)):=by
 cases x with
 |none=>exact⟨d,h,.inl ⟨rfl,rfl⟩⟩
 |some y=>
  simp only[lc,iO]at h
  split at h
  ·rename_i hx;cases hx
  ·rename_i k i hx;simp at hx;obtain⟨a,h⟩:=h;refine⟨i.toNat,h,.inr ⟨y,k,rfl,?_⟩⟩;rw[hx,Int.toNat_of_nonneg a]
  ·exact h.elim
theorem xc{lo hi:Option da}{ρc:da->dg}{b:Bool}{len cap d h l:Nat}(j:d=len)(m:(hi=none/\h=d)\/∃y k,hi=some y/\ρ y= .p (.int k h))(n:(lo=none/\l=0)\/∃y k,lo=some y/\ρ y= .p (.int k l))
 (f:h<=cap)(g:l<=h)(e:∀y,(hi=some y\/lo=some y)->aB P w ad β H (ρ y) (ρc y)):(gt b len cap (lo.map ρc) (hi.map ρc) none).run P w=.ok (l,h,cap) w:=by
 subst j;rcases m with⟨rfl,rfl⟩|⟨y,k,rfl,i⟩<;>rcases n with⟨rfl,rfl⟩|⟨z,o,rfl,hz⟩
 ·simp[gt]
 ·have c:=e z (.inr rfl);rw[hz]at c;simp only[aB,aE]at c;simp[gt,c,g9,asIntOf,g]
 ·have a:=e y (.inl rfl);rw[i]at a;simp only[aB,aE]at a;simp[gt,a,g9,asIntOf,f]
 ·have a:=e y (.inl rfl);rw[i]at a;simp only[aB,aE]at a;have c:=e z (.inr rfl);rw[hz]at c;simp only[aB,aE]at c;simp[gt,a,c,g9,asIntOf,f,g]
theorem wY{T e:db}(b:P.underlying T=some (.slice e))(x:dg)(lo hi a:Option dg)(w:dq):(hb T x lo hi a).run P w=(g0 T x lo hi a).run P w:=by
 simp only[hb,hG,c9 b,hE]
theorem X5{T:db}(b:P.underlying T=some .string)(x:dg)(lo hi a:Option dg)(w:dq):(hb T x lo hi a).run P w=(g0 T x lo hi a).run P w:=by
 simp only[hb,hG,c9 b,hE]
theorem sM{T:db}{x y:da}{lo hi b:Option da}(a:o.op=.slice T x lo hi b)(h:hi=some y\/lo=some y):y∈o.op.operands:=by
 rw[a];simp only[hj];rcases h with rfl|rfl<;>simp
theorem Cm{T:db}(h:jM P T=true):P.underlying T=some .string:=by
 unfold jM at h
 split at h
 ·assumption
 ·simp at h
theorem zD{ak:Nat}:∀{l:List AV},fZ P ak l↔∀v∈l,aa v≠.bad/\bU P (aa v)=ak
 |[]=>by simp[fZ]
 |v::l=>by simp[fZ,zD (l:=l)]
theorem xA{sz ak:Nat}{a:List AV}{d:List (List dg)}(b:Row P w ad β H ak a d)(hs:fZ P sz a)(g:a≠[]):ak=sz:=by
 cases a with
 |nil=>exact(g rfl).elim
 |cons v a=>
  rw[uD]at b;obtain⟨c,cs,rfl,e,f,_⟩:=b;have:=(zD.1 hs v s_).2;rw[<-f,(qY e).1,this]
theorem Qy{ak:Nat}{d:List PV}{e:List (List dg)}(h:bt P w ad (hV d.length ak) d e)(off len:Nat)(f:off+len<=d.length):
 ∃a b c,e=a++b++c/\bt P w ad (hV ((d.drop off).take len).length ak) ((d.drop off).take len) b/\a.flatten.length=off*ak:=by
 have g:Row P w ad ⟨id,id⟩ [] ak (d.map .p) e:=oI.2 h;obtain⟨a,b,c,e1,e2,e3,_⟩:=lV g off len (by simpa using f);rw[FK,oI]at e2;exact⟨a,b,c,e1,e2,e3⟩
theorem avA{T:db}{x:da}{lo hi N:Option da}(r:o.op= .slice T x lo hi N){H0:al}{K:aZ->Prop}(h:rh P T H0 (ρ x) (lo.map ρ) (hi.map ρ) (N.map ρ) K):
 ∃e,K e/\bD P o ρ base e/\(∀p∈e.ar,H0[p.1]?=some p.2)/\e.aM=[]:=by
 unfold rh at h;obtain⟨an,h⟩:=h;obtain rfl:N=none:=by cases N<;>simp_all
 have J:x∈o.op.operands:=by rw[r];simp[hj]
 split at h
 ·
  rename_i s hx;obtain⟨ae,h⟩:=h;have aa:=Cm ae;obtain⟨l,h,C⟩:=mz h;obtain⟨f,h,D⟩:=mz h;obtain⟨A,B,h⟩:=h;refine⟨_,h,bD.same fun H w ad ai β n v m _=>?_,s_,rfl⟩;have j:=(m x J).1;rw[hx]at j;simp only[aB,aE]at j;obtain⟨bs,e1,e2⟩:=j;have af:s.length=bs.size:=by rw[e2];simp
  have u:=xc (P:=P) (w:=w) (ad:=ad) (β:=β) (H:=H) (b:=false) (cap:=bs.size) (ρ:=ρ) (ρc:=n) af C D o_ B (fun y z=>(m y (sM r z)).1);refine⟨.string (bs.extract f l),?_,?_,by simp[aF]⟩
  ·simp only[dl,r,e1];refine fI ?_;rw[X5 aa];simp only[g0,hG,c9 aa,hE,la,Option.isSome_none];simp[u]
  ·simp only[aB,aE];refine⟨_,rfl,?_⟩;rw[e2,<-kd,<-List.map_drop,Go.Lib.extract_data,i9]
 ·
  rename_i hx;obtain⟨g,h⟩:=h;obtain⟨sz,g⟩:=kX.1 g;obtain⟨e,W,g⟩:=mw g;obtain⟨l,h,C⟩:=mz h;obtain⟨f,h,D⟩:=mz h;obtain⟨A,B,F⟩:=h;obtain rfl:l=0:=o_
  obtain rfl:f=0:=o_
  refine⟨_,F,bD.same fun H w ad ai β n v m _=>?_,s_,rfl⟩;have j:=(m x J).1;rw[hx]at j;simp only[aB,aE]at j;have u:=xc (P:=P) (w:=w) (ad:=ad) (β:=β) (H:=H) (b:=true) (cap:=0) (ρ:=ρ) (ρc:=n) (len:=0) (d:=0) rfl C D o_ B (fun y z=>(m y (sM r z)).1);refine⟨.slice none 0 0,?_,by rw[hx];simp[aB,aE],by rw[hx];simp[aF]⟩;simp only[dl,r,j];refine fI ?_;rw[wY g.iJ];simp only[g0,hG,c9 g.iJ,hE,la,u,g.run];simp
 ·
  rename_i full q hx;obtain⟨l,h,C⟩:=mz h;obtain⟨f,h,D⟩:=mz h;obtain⟨A,B,h⟩:=h
  split at h
  case h_2=>exact h.elim
  rename_i sz g;obtain⟨S,h⟩:=h;obtain⟨e,W,g⟩:=mw g;refine⟨_,h,bD.same fun H w ad ai β n v m _=>?_,s_,rfl⟩;have j:=(m x J).1;rw[hx]at j;simp only[aB,aE]at j;obtain⟨au,off,cap,ak,X,v1,v2,v3,v4,v5,sp,U,v6⟩:=j;have V:cap≠f->sp=none:=fun h=>U.resolve_right o_;have u:=xc (P:=P) (w:=w) (ad:=ad) (β:=β) (H:=H) (b:=true) (cap:=cap) (ρ:=ρ) (ρc:=n) rfl C D o_ B (fun y z=>(m y (sM r z)).1);refine⟨.slice (some (if cap=f then⟨au,off,sp⟩else⟨au,off+f*sz,none⟩)) (l-f) (cap-f),?_,?_,by simp[aF]⟩
  ·simp only[dl,r,v6];refine fI ?_;rw[wY g.iJ];simp only[g0,hG,c9 g.iJ,hE,la,u,g.run]
   by_cases hc:cap=f
   ·simp[hc]
   ·obtain rfl:=V hc;simp[hc,mC]
  ·have I:((q.take l).drop f).length=l-f:=by simp;omega
   simp only[aB,aE,I]
   by_cases E:q=[]
   ·subst E;simp at A;subst A;obtain rfl:f=0:=by omega
    by_cases hc:cap=0
    ·exact⟨au,off,cap,sz,[],by simp[bt],s_,by intro i hi;simp at hi,fun _=>by simpa using hc,s_,sp,.inr hc,by simp[hc]⟩
    ·exact⟨au,off,cap,sz,[],by simp[bt],s_,by intro i hi;simp at hi,fun hf=>by simp at hf;simpa using v4 hf,s_,none,.inl rfl,by simp[hc]⟩
   ·have Q:ak=sz:=xA (w:=w) (ad:=ad) (β:=β) (H:=H) (oI.2 v1) S (by simpa using E);subst Q;obtain⟨a,b,c,e1,e2,e3⟩:=Qy v1 f (l-f) o_;rw[<-i9]at e2;have am:(q.drop f).take (l-f)=(q.take l).drop f:=by rw[i9]
    rw[I]at e2
    by_cases hc:cap=f
    ·obtain rfl:l=f:=by omega
     have O:b=[]:=by
      have:=(zp e2).2.2;simpa using this
     subst O;refine⟨au,off,cap-l,ak,[],by simpa using e2,fun _=>v2 E,by intro i hi;simp at hi,?_,o_,sp,.inr o_,by simp[hc]⟩;intro _;omega
    ·refine⟨au,off+f*ak,cap-f,ak,b,e2,fun _=>v2 E,?_,?_,o_,none,.inl rfl,by simp[hc]⟩
     ·have:=xf v3 (pre:=a.flatten) (xs:=b.flatten) (post:=c.flatten) (by rw[e1];simp);rw[e3]at this;exact this
     ·intro hf;simp at hf;have:=v4 hf.1;omega
 ·
  rename_i q hx;obtain⟨l,h,C⟩:=mz h;obtain⟨f,h,D⟩:=mz h;obtain⟨A,B,h⟩:=h
  split at h
  case h_2=>exact h.elim
  rename_i sz g;obtain⟨S,h⟩:=h;obtain⟨e,W,g⟩:=mw g;refine⟨_,h,bD.same fun H w ad ai β n v m _=>?_,s_,rfl⟩;have j:=(m x J).1;rw[hx]at j;simp only[aB,aE]at j;rcases j with⟨rfl,j⟩|⟨au,off,cap,ak,X,v1,v2,v3,v5,sp,U,v6⟩
  ·simp at A;subst A;obtain rfl:f=0:=by omega
   have u:=xc (P:=P) (w:=w) (ad:=ad) (β:=β) (H:=H) (b:=true) (cap:=0) (ρ:=ρ) (ρc:=n) (len:=0) (d:=0) rfl C D o_ B (fun y z=>(m y (sM r z)).1);refine⟨.slice none 0 0,?_,by simp[aB,aE],by simp[aF]⟩;simp only[dl,r,j];refine fI ?_;rw[wY g.iJ];simp only[g0,hG,c9 g.iJ,hE,la,u,g.run];simp
  have V:cap≠f->sp=none:=fun h=>U.resolve_right o_;have u:=xc (P:=P) (w:=w) (ad:=ad) (β:=β) (H:=H) (b:=true) (cap:=cap) (ρ:=ρ) (ρc:=n) rfl C D o_ B (fun y z=>(m y (sM r z)).1);refine⟨.slice (some (if cap=f then⟨au,off,sp⟩else⟨au,off+f*sz,none⟩)) (l-f) (cap-f),?_,?_,by simp[aF]⟩
  ·simp only[dl,r,v6];refine fI ?_;rw[wY g.iJ];simp only[g0,hG,c9 g.iJ,hE,la,u,g.run]
   by_cases hc:cap=f
   ·simp[hc]
   ·obtain rfl:=V hc;simp[hc,mC]
  ·have I:((q.take l).drop f).length=l-f:=by simp;omega
   simp only[aB,aE,I];right
   by_cases E:q=[]
   ·subst E;simp at A;subst A;obtain rfl:f=0:=by omega
    by_cases hc:cap=0
    ·exact⟨au,off,cap,sz,[],by simp[bt],s_,by intro i hi;simp at hi,s_,sp,.inr hc,by simp[hc]⟩
    ·exact⟨au,off,cap,sz,[],by simp[bt],s_,by intro i hi;simp at hi,s_,none,.inl rfl,by simp[hc]⟩
   ·have Q:ak=sz:=xA (w:=w) (ad:=ad) (β:=β) (H:=H) (oI.2 v1) S (by simpa using E);subst Q;obtain⟨a,b,c,e1,e2,e3⟩:=Qy v1 f (l-f) o_;rw[<-i9]at e2;rw[I]at e2
    by_cases hc:cap=f
    ·obtain rfl:l=f:=by omega
     have O:b=[]:=by
      have:=(zp e2).2.2;simpa using this
     subst O;exact⟨au,off,cap-l,ak,[],by simpa using e2,fun _=>v2 E,by intro i hi;simp at hi,o_,sp,.inr o_,by simp[hc]⟩
    ·refine⟨au,off+f*ak,cap-f,ak,b,e2,fun _=>v2 E,?_,o_,none,.inl rfl,by simp[hc]⟩;have:=xf v3 (pre:=a.flatten) (xs:=b.flatten) (post:=c.flatten) (by rw[e1];simp);rw[e3]at this;exact this
 ·
  rename_i b az ak off len hx
  split at h
  case h_2=>exact h.elim
  rename_i k ao aj q R;obtain⟨rfl,rfl,g,M,hlen,h⟩:=h;obtain⟨l,h,C⟩:=mz h;obtain⟨f,h,D⟩:=mz h;obtain⟨A,B,F⟩:=h;obtain⟨e,W,g⟩:=mw g
  have key:∀(H:al)(w:dq)(ad ai:Nat->Prop)(β:Bd)(n:da->dg),cB P w ad β H ai->(∀x∈o.op.operands,aB P w ad β H (ρ x) (n x)/\aF (aL H) (ρ x))->
   H[b]?=some (.arr k az ak q)->q.length<=β.cap b/\(dl n o).run P w=.ok (.value (.slice (some (if β.cap b-off=f then⟨β.au b,off*ak,none⟩else⟨β.au b,off*ak+f*ak,none⟩)) (l-f) (β.cap b-off-f))) w:=by
   intro H w ad ai β n v m t;have j:=(m x J).1;rw[hx]at j;simp only[aB,bY,b7]at j;obtain⟨_,_,j⟩:=j.2 k q t;have j:=j M;rcases v.dj b _ t with hold|⟨cs,ah,X,rest,k1,k2,k3,k4,k5,k6⟩
   ·exact(M hold).elim
   have u:=xc (P:=P) (w:=w) (ad:=ad) (β:=β) (H:=H) (b:=true) (cap:=β.cap b-off) (ρ:=ρ) (ρc:=n) rfl C D o_ B (fun y z=>(m y (sM r z)).1);refine⟨k5,?_⟩;simp only[dl,r,j];refine fI ?_;rw[wY g.iJ];simp only[g0,hG,c9 g.iJ,hE,la,u,g.run]
   by_cases hc:β.cap b-off=f
   ·simp[hc]
   ·simp[hc,mC]
  split at F
  ·rename_i Y;subst Y;refine⟨_,F,bD.same fun H w ad ai β n v m ar=>?_,by simpa using R,rfl⟩;have t:H[b]?=some (.arr k az ak q):=by simpa using ar
   obtain⟨ab,L⟩:=key H w ad ai β n v m t;refine⟨_,L,?_,?_⟩
   ·simp only[aB,bY,b7];refine⟨by simp[hO],fun ag ac G=>?_⟩;unfold gn at G;rw[t]at G;cases G;exact⟨o_,fun hn=>(M hn).elim,fun _=>by simp⟩
   ·simp only[aF];exact⟨_,t,kk _⟩
  ·rename_i Y
   split at F
   ·rename_i Z;subst Z;refine⟨_,F,bD.same fun H w ad ai β n v m ar=>?_,by simpa using R,rfl⟩;have t:H[b]?=some (.arr k az ak q):=by simpa using ar
    obtain⟨ab,L⟩:=key H w ad ai β n v m t;refine⟨_,L,?_,by simp[aF]⟩;simp only[aB,aE]
    by_cases hc:β.cap b-off=f
    ·exact⟨β.au b,off*ak,β.cap b-off-f,ak,[],by simp[bt],s_,by intro i hi;simp at hi,s_,s_,by simp[hc]⟩
    ·exact⟨β.au b,off*ak+f*ak,β.cap b-off-f,ak,[],by simp[bt],s_,by intro i hi;simp at hi,s_,s_,by simp[hc]⟩
   ·rename_i Z;refine⟨_,F,bD.same fun H w ad ai β n v m ar=>?_,by simpa using R,rfl⟩;have t:H[b]?=some (.arr k az ak q):=by simpa using ar
    obtain⟨ab,L⟩:=key H w ad ai β n v m t;refine⟨_,L,?_,?_⟩
    ·simp only[aB,bY,b7];refine⟨by simp[hO],fun ag ac G=>?_⟩;unfold gn at G;rw[t]at G;cases G;refine⟨o_,fun hn=>(M hn).elim,fun _=>?_⟩;have hc:¬(β.cap b-off=f):=by omega
     rw[if_neg hc,kx,Nat.sub_sub]
    ·simp only[aF];exact⟨_,t,kk _⟩
 ·exact h.elim
theorem asM{T:db}{x:da}{lo hi:Option da}{d:da}(g:o.op= .slice T x lo hi (some d)){H0:al}{K:aZ->Prop}(h:uI P T H0 (ρ x) (lo.map ρ) (hi.map ρ) (ρ d) K):
 ∃e,K e/\bD P o ρ base e/\(∀p∈e.ar,H0[p.1]?=some p.2)/\e.aM=[]:=by
 unfold uI at h;have R:x∈o.op.operands:=by rw[g];simp[hj]
 split at h
 case h_2=>exact h.elim
 rename_i b az ak off len hx
 split at h
 case h_2=>exact h.elim
 rename_i k ae Z es U;obtain⟨rfl,rfl,c,D,hlen,W,h⟩:=h;obtain⟨i,h,O⟩:=mz h;obtain⟨G,h,Q⟩:=mz h;have I:iO ((some d).map ρ) 0 (fun m=>off+m<=es.length/\i<=m/\G<=i/\K {v:=.p .undef,ar:=[(b,.arr k az ak es)]}):=h;obtain⟨A,h,S⟩:=mz I;obtain⟨aa,B,J,L⟩:=h;obtain⟨sz,c⟩:=kX.1 c;obtain⟨e,ac,c⟩:=mw c;refine⟨_,L,bD.same fun H w ad ai β f V n ar=>?_,by simpa using U,rfl⟩;have E:H[b]?=some (.arr k az ak es):=by simpa using ar
 have a:=(n x R).1;rw[hx]at a;simp only[aB,bY,b7]at a;obtain⟨_,_,a⟩:=a.2 k es E;have a:=a D;rcases V.dj b _ E with hold|⟨cs,X,Y,rest,k1,k2,k3,k4,k5,k6⟩
 ·exact(D hold).elim
 have r:∃q,ρ d=.p (.int q A):=by
  rcases S with⟨h,_⟩|⟨y,q,u,a⟩
  ·cases h
  ·cases u;exact⟨q,a⟩
 obtain⟨q,r⟩:=r;have j:=(n d (by rw[g];simp[hj])).1;rw[r]at j;simp only[aB,aE]at j;have N:∃y F,hi=some y/\ρ y=.p (.int F i):=by
  rcases O with⟨rfl,_⟩|h
  ·simp at W
  ·exact h
 obtain⟨y,F,rfl,u⟩:=N;have l:=(n y (sM g (.inl rfl))).1;rw[u]at l;simp only[aB,aE]at l;have M:(gt true len (β.cap b-off) (lo.map f) (some (f y)) (some (f d))).run P w=.ok (G,i,A) w:=by
  have C:(A:Int)<=((β.cap b-off:Nat):Int):=o_
  rcases Q with⟨rfl,rfl⟩|⟨z,ab,rfl,hz⟩
  ·simp[gt,j,l,g9,asIntOf,C,B]
  ·have t:=(n z (sM g (.inr rfl))).1;rw[hz]at t;simp only[aB,aE]at t;simp[gt,j,l,t,g9,asIntOf,C,B,J]
 have s:∃cv,(hb T (f x) (lo.map f) (some (f y)) (some (f d))).run P w=.ok cv w:=by
  rw[wY c.iJ,a];simp only[g0,hG,c9 c.iJ,hE,M,c.run];exact⟨_,rfl⟩
 obtain⟨cv,s⟩:=s;refine⟨cv,?_,by simp only[aB,aE],by simp[aF]⟩;simp only[dl,g,lc];exact fI s
end
section
variable{P:dd}{w:dq}{ad ai:Nat->Prop}{β:Bd}{H:al}
variable{o:Oper}{ρ:da->AV}{base:Nat}
theorem se{H0 H:al}{a:AV}{c:List AV}(h:jb H0 a=some c)(ar:∀p∈ez H0 a,H[p.1]?=some p.2):jb H a=some c:=by
 cases a with
 |sl b az ak off len=>
  simp only[jb]at h⊢;simp only[ez]at ar
  split at h
  case h_2=>simp at h
  rename_i k g f e d;rw[d]at ar;have:=ar _ (iz.2 rfl);simp only at this;rw[this];exact h
 |p v=>cases v<;>exact h
 |_=>simp[jb]at h
theorem qM{H0:al}{a:AV}:∀p∈ez H0 a,H0[p.1]?=some p.2:=by
 intro p b;unfold ez at b
 split at b
 all_goals first
  |(split at b
    ·rename_i o c;simp at b;subst b;exact c
    ·simp at b)
  |simp at b
theorem zn{sz m:Nat}{au off n c:Nat}{w:dq}{xs:List dg}(e:xs.length=m*sz)(hc:jc w au off xs):(eP sz m (.slice (some ⟨au,off,none⟩) n c)).run P w=.ok xs.toArray w:=by
 refine eq w sz m _ n c xs e ?_;intro j v a;rw[mC];obtain⟨b,d⟩:=hS.1 a;rw[hc j b,d]
theorem FF{sz n c:Nat}{a:Addr}{w:dq}:(eP sz 0 (.slice (some a) n c)).run P w=.ok #[] w:=
 eq w sz 0 a n c [] s_ (fun j v b=>by simp at b)
theorem Ac{sz:Nat}{a:AV}{u:List AV}{v:dg}(g:jb H a=some u)(G:cB P w ad β H ai)(i:aB P w ad β H a v)(R:aF (aL H) a)(hs:fZ P sz u):
 ∃d,Row P w ad β H sz u d/\ba (aL H) u/\e8 v=pure u.length/\
  ∀w':dq,w'.heap=w.heap->∀m,m<=u.length->(eP sz m v).run P w'=.ok (d.take m).flatten.toArray w':=by
 have F:∀{f:List AV}{d:List (List dg)}(m:Nat),Row P w ad β H sz f d->m<=f.length->(d.take m).flatten.length=m*sz:=by
  intro f d m h j;obtain⟨x,y,z,e1,e2,e3,e4,e5⟩:=lV h 0 m o_;have hx:x=[]:=by have:=(gX e4).1;simpa using this
  have N:y.length=m:=by have:=(gX e2).1;simp at this;omega
  subst hx;have J:d.take m=y:=by rw[e1];simp[N]
  rw[J];have:=(gX e2).2;rw[this];simp[j]
 have cells:∀{au off:Nat}{d:List (List dg)}(w':dq),w'.heap=w.heap->jc w au off d.flatten->∀m,jc w' au off (d.take m).flatten:=by
  intro au off d w' q hc m;have I:jc w' au off d.flatten:=hc.same (by rw[q]);have:=xf I (pre:=[]) (xs:=(d.take m).flatten) (post:=(d.drop m).flatten) (by
   rw[i6,<-ix,List.take_append_drop])
  simpa using this
 cases a with
 |p t=>
  cases t with
  |aI=>
   simp[jb]at g;subst g;simp only[aB,aE]at i;subst i;exact⟨[],jC.2 rfl,by simp[ba],rfl,fun w' _ m j=>by simp[eP]⟩
  |dw full f=>
   simp[jb]at g;subst g;simp only[aB,aE]at i;obtain⟨au,off,cap,ak,d,v1,v2,v3,v4,v5,sp,D,rfl⟩:=i;rcases D with rfl|rfl
   case inr=>
    obtain rfl:f=[]:=h5.1 o_;exact⟨[],jC.2 rfl,by simp[ba],rfl,fun w' _ m j=>by
     obtain rfl:m=0:=by simpa using j
     exact FF⟩
   have h:Row P w ad β H ak (f.map .p) d:=oI.2 v1;have o:Row P w ad β H sz (f.map .p) d:=by
    by_cases n:f.map AV.p=[]
    ·rw[n]at h⊢;rw[jC]at h⊢;exact h
    ·rw[<-xA h hs n];exact h
   refine⟨d,o,kj _ _,by simp[e8],fun w' q m j=>?_⟩;exact zn (F m o j) (cells w' q v3 m)
  |seq f=>
   simp[jb]at g;subst g;simp only[aB,aE]at i;rcases i with⟨rfl,rfl⟩|⟨au,off,cap,ak,d,v1,v2,v3,v5,sp,D,rfl⟩
   ·exact⟨[],jC.2 rfl,by simp[ba],rfl,fun w' _ m j=>by simp[eP]⟩
   rcases D with rfl|rfl
   case inr=>
    obtain rfl:f=[]:=h5.1 o_;exact⟨[],jC.2 rfl,by simp[ba],rfl,fun w' _ m j=>by
     obtain rfl:m=0:=by simpa using j
     exact FF⟩
   have h:Row P w ad β H ak (f.map .p) d:=oI.2 v1;have o:Row P w ad β H sz (f.map .p) d:=by
    by_cases n:f.map AV.p=[]
    ·rw[n]at h⊢;rw[jC]at h⊢;exact h
    ·rw[<-xA h hs n];exact h
   refine⟨d,o,kj _ _,by simp[e8],fun w' q m j=>?_⟩;exact zn (F m o j) (cells w' q v3 m)
  |str s=>
   simp[jb]at g;subst g;simp only[aB,aE]at i;obtain⟨bs,rfl,rfl⟩:=i;have M:sz=1\/bs.data.toList=[]:=by
    cases A:bs.data.toList with
    |nil=>exact .inr rfl
    |cons a r=>
     rw[A]at hs;simp[fZ,aa,aK,bU]at hs;exact .inl hs.1.symm
   have h:Row P w ad β H sz ((bs.data.toList.map (·.toNat)).map fun c=>.p (.int .u8 (c:Nat))) (bs.data.toList.map fun c=>[hP .u8 c.toNat]):=by
    rcases M with rfl|A
    ·generalize bs.data.toList=l
     induction l with
     |nil=>exact jC.2 rfl
     |cons a r E=>exact uD.2 ⟨_,_,rfl,by simp[bC,bd],rfl,E⟩
    ·rw[A];exact jC.2 rfl
   refine⟨_,h,by rw[df];intro v i;simp at i;obtain⟨a,_,rfl⟩:=i;simp[aF],by simp[e8],fun w' _ m _=>?_⟩;have e:((bs.data.toList.map fun c=>[hP .u8 c.toNat]).take m).flatten=(bs.data.toList.take m).map fun c=>hP .u8 c.toNat:=by
    rw[<-kd];generalize bs.data.toList.take m=l
    induction l with
    |nil=>rfl
    |cons a r E=>simp[E]
   rw[e];simp only[eP,hH];congr 1;apply b2;simp[ByteArray.data_extract]
  |_=>simp[jb]at g
 |sl b az ak off len=>
  simp only[jb]at g
  split at g
  case h_2=>simp at g
  rename_i k S Q f C
  split at g
  case isFalse=>simp at g
  rename_i hc;obtain⟨rfl,rfl,B⟩:=hc;simp at g;subst g;simp only[aB,bY,b7]at i;obtain⟨_,v2,v3⟩:=i.2 k f C;have L:((f.drop off).take len).length=len:=by simp;omega
  by_cases hn:dM k f
  ·rw[v2 hn];have K:=hn.2;subst K;simp at B;obtain⟨rfl,rfl⟩:=B;exact⟨[],jC.2 s_,by simp[ba],rfl,fun w' _ m j=>by simp[eP]⟩
  ·rw[v3 hn];rcases G.dj b _ C with hold|⟨cs,O,d,rest,k1,k2,k3,k4,k5,k6⟩
   ·exact(hn hold).elim
   obtain⟨x,y,z,e1,e2,e3,e4,e5⟩:=lV k2 off len B;have o:Row P w ad β H sz ((f.drop off).take len) y:=by
    by_cases n:(f.drop off).take len=[]
    ·rw[n]at e2⊢;rw[jC]at e2⊢;exact e2
    ·rw[<-xA e2 hs n];exact e2
   refine⟨y,o,?_,by rw[L];rfl,fun w' q m j=>?_⟩
   ·rw[df];intro v i;exact df.1 (G.refs b _ C) v (h7 (h2 i))
   ·refine zn (F m o j) (cells w' q ?_ m);rw[<-e3];exact n6 k1 (post:=z.flatten++rest) (by rw[k3,e1];simp)
 |_=>simp[jb]at g
theorem Z1{T X e:db}{i:ed}{f:dg}{sz:Nat}(a:uz P T sz e i)(b:jO P X=true)(hz:i.zero=some f)(y:db){p:Option Addr}{sLen sCap n:Nat}{j h:Array dg}(x:dg)
 (hx:e8 x=pure n)(r:(eP sz sLen (.slice p sLen sCap)).run P w.drew=.ok j w.drew)(aY:(eP sz n x).run P w.drew=.ok h w.drew)(q:sCap<sLen+n)(g:sLen+n<=dH):
 ∃cap,sLen+n<=cap/\(e7 #[T,X] y #[.slice p sLen sCap,x]).run P w=
  .ok (.slice (some ⟨w.heap.size,0,none⟩) (sLen+n) cap) {w.drew with heap:=w.heap.push (.cells (j++h++e9 f.cells (cap-(sLen+n))) e)}:=by
 refine⟨grownCap w (sLen+n) sCap e,by simp[grownCap,Question.cut],?_⟩;have o:∃d,P.underlying X=some d/\∀k,d≠.int k:=by
  unfold jO at b
  split at b
  ·simp at b
  ·rename_i d c u;exact⟨_,u,c⟩
  ·simp at b
 obtain⟨d,c,z⟩:=o;have hn:¬(sLen+n<=sCap):=o_
 have m:¬(9223372036854775807<((sLen:Int)+(n:Int))):=by unfold dH at g;omega
 have A:fm (sLen+n) sCap*i.bytes<=281474976710656:=by
  refine growslice_fits q ?_;have:=Nat.mul_le_mul g (Nat.le_of_lt a.bytes);unfold dH at this;omega
 have l:¬(281474976710656<fm (sLen+n) sCap*i.bytes):=o_
 have s:(sizeOf e).run P w=.ok sz w:=a.run w;have t:∀w:dq,(typeInfo e).run P w=.ok i w:=fun w=>by simp[typeInfo,a.info]
 have v:∀w:dq,(zeroValue e).run P w=.ok f w:=fun w=>by simp[zeroValue,typeInfo,a.info,hz]
 simp[e7,c9 a.iJ,c9 c,s,t,v,hx,hn,m,l,Question.forced,r,aY,newRow,grownCap,Array.append_assoc];rfl
theorem Ng{T X e:db}{i:ed}{sz:Nat}(j:uz P T sz e i)(c:jO P X=true)(t:db){g off:Nat}{sLen sCap n:Nat}{b:Array dg}{h:db}{a:List dg}(x:dg)
 (hx:e8 x=pure n)(o:w.heap[g]?=some (.cells b h (0,0)))(aY:(eP sz n x).run P w=.ok a.toArray w)(l:∀u∈a,u.oneCell'=true)(q:sLen+n<=sCap)(p:off+sLen*sz+a.length<=b.size):
 (e7 #[T,X] t #[.slice (some ⟨g,off,none⟩) sLen sCap,x]).run P w=
  .ok (.slice (some ⟨g,off,none⟩) (sLen+n) sCap) (w.setRow g (b.toList.take (off+sLen*sz)++a++b.toList.drop (off+sLen*sz+a.length)).toArray):=by
 have m:∃d,P.underlying X=some d/\∀k,d≠.int k:=by
  unfold jO at c
  split at c
  ·simp at c
  ·rename_i d f s;exact⟨_,s,f⟩
  ·simp at c
 obtain⟨d,f,v⟩:=m;have aO:=ea P g (off+sLen*sz) h a 0 b w o (by simpa using p) l;simp only[kp]at aO;have r:(sizeOf e).run P w=.ok sz w:=j.run w;simp[e7,c9 j.iJ,c9 f,r,hx,q,aY,mC,aO]
theorem YX{T X e:db}{i:ed}{sz:Nat}(f:uz P T sz e i)(b:jO P X=true)(m:db){p:Option Addr}{sLen sCap:Nat}(x:dg)
 (hx:e8 x=pure 0)(aY:(eP sz 0 x).run P w=.ok #[] w)(g:sLen<=sCap):
 (e7 #[T,X] m #[.slice p sLen sCap,x]).run P w=.ok (.slice p sLen sCap) w:=by
 have j:∃d,P.underlying X=some d/\∀k,d≠.int k:=by
  unfold jO at b
  split at b
  ·simp at b
  ·rename_i d c l;exact⟨_,l,c⟩
  ·simp at b
 obtain⟨d,c,n⟩:=j;have h:(sizeOf e).run P w=.ok sz w:=f.run w;cases p with
 |none=>simp[e7,c9 f.iJ,c9 c,h,hx,g,aY]
 |some a=>simp[e7,c9 f.iJ,c9 c,h,hx,g,aY,storeCells]
theorem ct.drew{aG:Nat->Prop}{w1 w':dq}{aN:Bd}{H':al}(a:w1.heap=w.heap)(b:w1.os=w.os/\w1.output=w.output)(h:ct P ai ad w1 β H aG w' aN H'):ct P ai ad w β H aG w' aN H':=
 ⟨h.cq,h.fresh,⟨by rw[<-a];exact h.ext.size,fun k hk=>by rw[<-a];exact h.ext.same k hk,h.ext.io.1.trans b.1,h.ext.io.2.trans b.2⟩,h.step,h.rel,h.gU,h.loop⟩
theorem Xn(z:Array dg)(n:Nat):(e9 z n).size=n*z.size:=by simp[e9]
theorem Al{ak:Nat}:∀{b:List AV}{a:List (List dg)},Row P w ad β H ak b a->∀c∈a.flatten,c.oneCell'=true
 |[],a,h=>by rw[jC]at h;subst h;simp
 |v::b,a,h=>by
  rw[uD]at h;obtain⟨c,cs,rfl,d,_,e⟩:=h;intro x hx;simp only[List.flatten_cons,i7]at hx;exact hx.elim (Db d x) (Al e x)
theorem Row.mono{w':dq}{aG:Nat->Prop}{aN:Bd}{H':al}(hI:∀k,ad k->aG k)(hs:∀k,ad k->w'.heap[k]?=w.heap[k]?)(aO:cO β H aN H'){ak:Nat}{a:List AV}{b:List (List dg)}(c:ba (aL H) a)
 (h:Row P w ad β H ak a b):Row P w' aG aN H' ak a b:=bX.mono hI hs aO _ _ _ c h
theorem Cn{c:Call}{s x:da}(e:o.op= .call c)(hc:c.callee= .builtin .append)(b:c.args.toList=[s,x]){a:da->dg}{w w':dq}{v:dg}
 (h:(e7 c.argTypes o.type #[a s,a x]).run P w=.ok v w'):(dl a o).run P w=.ok (.value v) w':=by
 have d:c.args=#[s,x]:=by apply b2;simpa using b
 simp only[dl,e,resolve,hc,d];simp[invoke,builtin,h]
theorem atB{c:Call}{s x:da}(e:o.op= .call c)(hc:c.callee= .builtin .copy)(b:c.args.toList=[s,x]){a:da->dg}{w w':dq}{v:dg}
 (h:(fd c.argTypes o.type #[a s,a x]).run P w=.ok v w'):(dl a o).run P w=.ok (.value v) w':=by
 have d:c.args=#[s,x]:=by apply b2;simpa using b
 simp only[dl,e,resolve,hc,d];simp[invoke,builtin,h]
end
section
variable{P:dd}{w:dq}{ad ai:Nat->Prop}{β:Bd}{H:al}
variable{o:Oper}{ρ:da->AV}{base:Nat}
theorem Cc{c:Call}{s x:da}(D:o.op= .call c)(hc:c.callee= .builtin .append)(y:c.args.toList=[s,x]){T X e:db}(I:c.argTypes=#[T,X]){i:ed}{j:dg}{sz:Nat}(u:uz P T sz e i)(v:jO P X=true)
 (hz:i.zero=some j)(L:j.cells.size=sz)(F:cB P w ad β H ai){g:da->dg}{p:Option Addr}{b f:Nat}{olds a:List AV}{ocss:List (List dg)}(hs:g s=.slice p b f)(m:olds.length=b)(l:Row P w ad β H sz olds ocss)(E:ba (aL H) olds)
 (C:(eP sz b (.slice p b f)).run P w.drew=.ok ocss.flatten.toArray w.drew)
 (hx:jb H (ρ x)=some a)(K:aB P w ad β H (ρ x) (g x))(J:aF (aL H) (ρ x))(G:fZ P sz a)(A:f<b+a.length)(B:b+a.length<=dH):
 ∃cap cells d M,(dl g o).run P w=.ok (.value (.slice (some ⟨w.heap.size,0,none⟩) (b+a.length) cap)) {w.drew with heap:=w.heap.push (.cells cells e)}/\
  Row P w ad β H sz (olds++a) d/\ba (aL H) (olds++a)/\cells.toList=d.flatten++M/\cells.size=cap*sz/\(olds++a).length<=cap:=by
 obtain⟨d,h,q,r,t⟩:=Ac hx F K J G;have k:=t w.drew rfl a.length (kk _);have N:d.length=a.length:=(gX h).1;rw[i0 o_]at k;obtain⟨cap,z,n⟩:=Z1 u v hz o.type (sLen:=b) (sCap:=f) (p:=p) (g x) r C k A B;rw[<-I,<-hs]at n;refine⟨cap,_,ocss++d,(e9 j.cells (cap-(b+a.length))).toList,Cn D hc y n,nu.2 ⟨_,_,rfl,l,h⟩,lU E q,s_,?_,by simpa[m]using z⟩;have e1:=(gX l).2;have e2:=(gX h).2;simp only[Array.size_append,ih,Xn,L,e1,e2,m,<-kx];congr 1;omega
theorem yh{T:db}:gk P T≠.frozen/\gk P T≠.exact:=by
 unfold gk;split<;>simp
theorem IF{T e:db}(h:fy P T=e)(hk:gk P T=.bytes):e=Gl.u8:=by
 unfold gk at hk
 split at hk
 ·rename_i a;rw[<-h];exact a
 ·cases hk
theorem Gw{_o':Obj}{k:AK}{a:List AV}{b:List (List dg)}{r:List dg}{cells:Array dg}{e:db}{cap sz:Nat}(j:cB P w ad β H ai)(c:H[base]?=some .hole)
 (g:k≠.frozen)(i:¬dM k a)(m:Row P w ad β H sz a b)(d:ba (aL H) a)(hc:cells.toList=b.flatten++r)(o:cells.size=cap*sz)(h:a.length<=cap)(f:k=.exact->cap=a.length)(p:k=.bytes->e=Gl.u8):
 ct P ai ad w β H ad {w.drew with heap:=w.heap.push (.cells cells e)} (β.at base w.heap.size cap) (bA H ([]++newAt base [.arr k 0 sz a]))/\
 aB P {w.drew with heap:=w.heap.push (.cells cells e)} ad (β.at base w.heap.size cap) (bA H ([]++newAt base [.arr k 0 sz a])) (.sl base 0 sz 0 a.length) (.slice (some ⟨w.heap.size,0,none⟩) a.length cap)/\
 aF (aL (bA H ([]++newAt base [.arr k 0 sz a]))) (.sl base 0 sz 0 a.length):=by
 have l:cB P w.drew ad β H ai:=cB.CD (w:=w) (w':=w.drew) rfl j;have n:Row P w.drew ad β H sz a b:=Row.mono (w:=w) (w':=w.drew) (fun _ x=>x) (fun _ _=>rfl) (cO.refl _ _) d m;obtain⟨q1,q⟩:=F0 (T:=e) (k:=k) l c g i n d hc o h f p;rw[nV];exact⟨ct.drew (w1:=w.drew) rfl ⟨rfl,rfl⟩ q1,q,⟨_,hT (hS.1 c).1,kk _⟩⟩
theorem PE{b:Nat}{k k':AK}{az ak:Nat}{i es':List AV}{au cap:Nat}(f:H[b]?=some (.arr k az ak i)):cO β H (β.at b au cap) (H.set b (.arr k' (az+1) ak es')):=by
 have j:b<H.length:=(hS.1 f).1;have c:∀x,x≠b->(H.set b (.arr k' (az+1) ak es'))[x]?=H[x]?:=fun x hx=>h4 (kP hx);have a:(H.set b (.arr k' (az+1) ak es'))[b]?=some (.arr k' (az+1) ak es'):=hT j;refine⟨?_,?_,?_,?_,?_⟩
 ·rintro x _ ⟨fz,t,h⟩
  by_cases hx:x=b
  ·subst hx;rw[a]at h;cases h
  ·rw[c x hx]at h;exact⟨⟨fz,t,h⟩,by simp[Bd.at,hx]⟩
 ·rintro x _ ⟨fz,t,h⟩
  by_cases hx:x=b
  ·subst hx;rw[a]at h;cases h
  ·rw[c x hx]at h;exact⟨⟨fz,t,h⟩,by simp[Bd.at,hx]⟩
 ·rintro x _ ⟨n,h,e⟩
  by_cases hx:x=b
  ·subst hx;rw[a]at h;cases h;exact e.elim
  ·rw[c x hx]at h;exact⟨⟨n,h,e⟩,by simp[Bd.at,hx]⟩
 ·intro x v z m g hi h;unfold gn at h
  by_cases hx:x=b
  ·subst hx;rw[a]at h;cases h;obtain⟨o,d,l⟩:=hi;simp only at d;rw[f]at d;cases d;simp only[Obj.has]at l;omega
  ·rw[c x hx]at h;exact⟨m,g,h,kk _,Iff.rfl,fun _=>by simp[Bd.at,hx]⟩
 ·rintro x _ ⟨L,h⟩
  by_cases hx:x=b
  ·subst hx;rw[a]at h;cases h
  ·rw[c x hx]at h;exact⟨⟨L,h⟩,by simp[Bd.at,hx]⟩
theorem Bd.ato(β:Bd)(b:Nat):β.at b (β.au b) (β.cap b)=β:=by
 cases β with
 |mk au cap=>
  simp only[Bd.at,Bd.mk.injEq];constructor
  ·funext x;split
   ·rename_i h;rw[h]
   ·rfl
  ·funext x;split
   ·rename_i h;rw[h]
   ·rfl
theorem FM{α:Type}(A M Z X:List α):(A++M++Z).take A.length++X++(A++M++Z).drop (A.length+M.length)=A++X++Z:=by
 rw[ii A M Z,List.take_left,<-ii,<-hU,List.drop_left]
theorem asP{c:Call}{s x:da}(W:o.op= .call c)(hc:c.callee= .builtin .append)(V:c.args.toList=[s,x])(bN:c.argTypes.size=2){H0:al}{K:aZ->Prop}
 (h:qW P (c.argTypes.getD 0 0) (c.argTypes.getD 1 0) H0 (ρ s) (ρ x) K):
 ∃e,K e/\bD P o ρ H0.length e/\(∀p∈e.ar,H0[p.1]?=some p.2)/\(∀p∈e.aM,p.1<H0.length/\p.2≠.hole):=by
 obtain⟨T,X,R⟩:∃T X,c.argTypes=#[T,X]:=by
  obtain⟨l,G⟩:∃l,l=c.argTypes.toList:=⟨_,rfl⟩
  have ac:l.length=2:=by rw[G];simpa using bN
  match l,ac with
  |[a,b],_=>exact⟨a,b,by apply b2;simp[<-G]⟩
 have A:s∈o.op.operands/\x∈o.op.operands:=by
  have bx:c.args=#[s,x]:=by apply b2;simpa using V
  rw[W];simp[hj,gj,hc,bx]
 have e1:c.argTypes.getD 0 0=T:=by rw[R];rfl
 have e2:c.argTypes.getD 1 0=X:=by rw[R];rfl
 rw[e1,e2]at h;unfold qW at h
 split at h
 case h_2=>exact h.elim
 rename_i sz g E hx;obtain⟨ae,hz,ag,h⟩:=h;obtain⟨e,i,E⟩:=mw E;obtain⟨z,hz⟩:=kX.1 hz;obtain⟨bV,bS,z1,z2,z3,z4⟩:=uu hz;rw[E.tY]at z1 z4;rw[E.info]at z1;cases z1;have aS:bS.cells.size=sz:=by
  obtain⟨_,i2,k1,k2⟩:=Ce (v:=.p z) (w:=default) (ad:=fun _=>False) (β:=⟨id,id⟩) (H:=[]) z4 (by simp only[bC];exact z3 _ _);rw[E.info]at k1;cases k1;have:=E.size;simp at k2;omega
 have a6:∀{ar:List (Nat×Obj)},(∀p∈ez H0 (ρ x),p∈ar)->(∀p∈ar,H0[p.1]?=some p.2)->g=[]->(∀(H:al)(w:dq)(ad ai:Nat->Prop)(β:Bd)(v:dg),cB P w ad β H ai->(∀p∈ar,H[p.1]?=some p.2)->aB P w ad β H (ρ s) v->∃p a b,v= .slice p a b/\a<=b)->
  bD P o ρ H0.length {v:=ρ s,ar}:=by
  intro ar bM ap bO bK;subst bO;refine bD.same fun H w ad ai β ao f j ar=>?_;obtain⟨p,a,b,t,bw⟩:=bK H w ad ai β _ f ar (j s A.1).1;obtain⟨D,B,ac,bt,bu⟩:=Ac (se hx (fun p t=>ar p (bM p t))) f (j x A.2).1 (j x A.2).2 ag;have be:=bu w rfl 0 (kk _);simp only[List.take_zero,List.flatten_nil]at be;have Q:=YX E ae o.type (p:=p) (sLen:=a) (sCap:=b) _ bt be bw;rw[<-R,<-t]at Q;exact⟨_,Cn W hc V Q,by rw[t];exact t▸(j s A.1).1,(j s A.1).2⟩
 have a5:∀l:List AV,l.isEmpty=true->l=[]:=fun l h=>by simpa using h
 split at h
 ·
  rename_i hs
  split at h
  ·rename_i F;refine⟨_,h,?_,qM,s_⟩;exact a6 (fun p t=>t) qM (a5 _ F) (fun H w ad ai β v _ _ u=>by rw[hs]at u;simp only[aB,aE]at u;exact⟨_,_,_,u,kk _⟩)
  ·rename_i F;obtain⟨bj,h⟩:=h;refine⟨_,h,?_,qM,s_⟩;intro H w ad ai β ao f j ar aC;have af:H[H0.length]?=some .hole:=by simpa using aC 0 s_
   have O:=(j s A.1).1;rw[hs]at O;simp only[aB,aE]at O;have bl:0<g.length:=j1.2 (by simpa using F);obtain⟨cap,cells,D,C,r1,ah,aa,aj,am,an⟩:=Cc W hc V R E ae z2 aS f O (olds:=[]) (ocss:=[]) rfl (jC.2 rfl) (by simp[ba]) (by simp[eP])
    (se hx ar) (j x A.2).1 (j x A.2).2 ag o_ o_
   obtain⟨q1,Y,Z⟩:=Gw (base:=H0.length) (k:=gk P T) (e:=e) (_o':=.hole) f af yh.1 (fun hn=>F (by simpa using hn.2)) ah aa aj am an (fun h=>(yh.2 h).elim) (IF E.tY);simp only[i6,kv]at r1 q1 Y Z;exact⟨_,_,_,_,ad,r1,.inl rfl,q1,Y,Z⟩
 ·
  rename_i full d hs;obtain⟨bz,h⟩:=h
  have O:∀{H:al}{w:dq}{ad:Nat->Prop}{β:Bd}{v:dg},aB P w ad β H (ρ s) v->∃p c M,v= .slice p d.length c/\d.length<=c/\(full=true->c=d.length)/\Row P w ad β H sz (d.map .p) M/\
   (∀w':dq,w'.heap=w.heap->(eP sz d.length v).run P w'=.ok M.flatten.toArray w'):=by
   intro H w ad β v u;rw[hs]at u;simp only[aB,aE]at u;obtain⟨au,off,cap,ak,D,v1,v2,v3,v4,v5,sp,bL,rfl⟩:=u;rcases bL with rfl|rfl
   case inr=>
    obtain rfl:d=[]:=h5.1 o_;exact⟨_,_,[],rfl,s_,s_,jC.2 rfl,fun w' _=>FF⟩
   have aI:Row P w ad β H ak (d.map .p) D:=oI.2 v1;have bp:Row P w ad β H sz (d.map .p) D:=by
    by_cases bk:d.map AV.p=[]
    ·rw[bk]at aI⊢;rw[jC]at aI⊢;exact aI
    ·rw[<-xA aI bz bk];exact aI
   refine⟨_,_,D,rfl,v5,v4,bp,fun w' a4=>zn (by have:=(gX bp).2;simpa using this) (v3.same (by rw[a4]))⟩
  split at h
  ·rename_i F;refine⟨_,h,?_,qM,s_⟩;exact a6 (fun p t=>t) qM (a5 _ F) (fun H w ad ai β v _ _ u=>by obtain⟨p,c,_,B,ac,_⟩:=O u;exact⟨p,_,c,B,ac⟩)
  ·rename_i F;obtain⟨hf,bj,h⟩:=h;refine⟨_,h,?_,qM,s_⟩;intro H w ad ai β ao f j ar aC;have af:H[H0.length]?=some .hole:=by simpa using aC 0 s_
   have bl:0<g.length:=j1.2 (by simpa using F);obtain⟨p,cp,M,s1,s2,bQ,bR,bs⟩:=O (j s A.1).1;rw[s1]at bs;obtain⟨cap,cells,D,C,r1,ah,aa,aj,am,an⟩:=Cc W hc V R E ae z2 aS f s1 (olds:=d.map .p) s_ bR (kj _ _) (bs w.drew rfl)
    (se hx ar) (j x A.2).1 (j x A.2).2 ag (by have:=bQ hf;omega) o_
   obtain⟨q1,Y,Z⟩:=Gw (base:=H0.length) (k:=gk P T) (e:=e) (_o':=.hole) f af yh.1 (fun hn=>F (by have:=hn.2;simp at this;simp[this.2])) ah aa aj am an (fun h=>(yh.2 h).elim) (IF E.tY);simp only[hU,kb]at Y Z;exact⟨_,_,_,_,ad,r1,.inl rfl,q1,Y,Z⟩
 ·
  rename_i b az ak off len hs
  split at h
  case h_2=>exact h.elim
  rename_i k bW bT d a2;obtain⟨rfl,rfl,rfl,hlen,h⟩:=h;have ap:∀p∈(b,Obj.arr k az ak d)::ez H0 (ρ x),H0[p.1]?=some p.2:=by
   intro p t;rcases hZ.1 t with rfl|t
   ·exact a2
   ·exact qM p t
  have O:∀{H:al}{w:dq}{ad ai:Nat->Prop}{β:Bd}{v:dg},cB P w ad β H ai->H[b]?=some (.arr k az ak d)->aB P w ad β H (ρ s) v->
   (dM k d/\v=.slice none 0 0/\len=0)\/(¬dM k d/\v=.slice (some ⟨β.au b,off*ak,none⟩) len (β.cap b-off)/\
   ∃cs T D C,w.heap[β.au b]?=some (.cells cs T (0,0))/\Row P w ad β H ak d D/\cs.toList=D.flatten++C/\
   cs.size=β.cap b*ak/\d.length<=β.cap b/\(k=.exact->β.cap b=d.length)/\cS ad β ai (k== .frozen) b/\(k=.bytes->T=Gl.u8)):=by
   intro H w ad ai β v f q u;rw[hs]at u;simp only[aB,bY,b7]at u;obtain⟨_,v2,v3⟩:=u.2 k d q
   by_cases hn:dM k d
   ·exact .inl ⟨hn,v2 hn,by have:=hn.2;subst this;simp at hlen;omega⟩
   ·rcases f.dj b _ q with hold|⟨cs,N,D,C,k1,k2,k3,k4,k5,k6,k7,k8⟩
    ·exact(hn hold).elim
    ·exact .inr ⟨hn,v3 hn,cs,N,D,C,k1,k2,k3,k4,k5,k6,k7,k8.2⟩
  have holds:∀{H:al}{w:dq}{ad:Nat->Prop}{β:Bd}{cs:Array dg}{N:db}{D:List (List dg)}{C:List dg},w.heap[β.au b]?=some (.cells cs N (0,0))->Row P w ad β H ak d D->cs.toList=D.flatten++C->
   ∃M,Row P w ad β H ak ((d.drop off).take len) M/\∀(w':dq)(n c:Nat),w'.heap=w.heap->(eP ak len (.slice (some ⟨β.au b,off*ak,none⟩) n c)).run P w'=.ok M.flatten.toArray w':=by
   intro H w ad β cs N D C k1 k2 k3;obtain⟨a,m,z,g1,g2,g3,g4,g5⟩:=lV k2 off len hlen;refine⟨m,g2,fun w' n c a4=>zn (by have:=(gX g2).2;rw[this];congr 1;simp;omega) ?_⟩;have:=n6 k1 (pre:=a.flatten) (xs:=m.flatten) (post:=z.flatten++C) (by rw[k3,g1];simp);rw[g3]at this;exact this.same (by rw[a4])
  split at h
  ·rename_i F;refine⟨_,h,?_,ap,s_⟩;refine a6 (fun p t=>h3 _ t) ap (a5 _ F) (fun H w ad ai β v f ar u=>?_);rcases O f (ar (b,_) s_) u with⟨_,B,_⟩|⟨hn,B,cs,N,D,C,ac⟩
   ·exact⟨_,_,_,B,kk _⟩
   ·exact⟨_,_,_,B,o_⟩
  ·rename_i F;have bl:0<g.length:=j1.2 (by simpa using F);obtain⟨bj,h⟩:=h
   split at h
   ·exact h.elim
   ·
    split at h
    ·rename_i av;refine⟨_,h,?_,ap,by simpa using(hS.1 a2).1⟩;intro H w ad ai β ao f j ar _;have q:H[b]?=some (.arr .exact az ak d):=ar (b,_) s_;rcases O f q (j s A.1).1 with⟨hn,_⟩|⟨hn,B,cs,N,D,C,k1,k2,k3,k4,k5,k6,k7,k8⟩
     ·cases hn.1
     obtain⟨J,U,a7,a8,a9⟩:=Ac (se hx (fun p t=>ar p (h3 _ t))) f (j x A.2).1 (j x A.2).2 ag;have aK:=a9 w rfl g.length (kk _);rw[i0 (by have:=(gX U).1;omega)]at aK;have bh:=k6 rfl;obtain⟨a,m,ab,g1,g2,g3,g4,g5⟩:=lV k2 (off+len) g.length av;have aw:=(gX U).2;have aq:m.flatten.length=g.length*ak:=by have:=(gX g2).2;rw[this];congr 1;simp;omega
     have aM:cs.toList=a.flatten++m.flatten++(ab.flatten++C):=by rw[k3,g1];simp
     have bg:a.flatten.length=off*ak+len*ak:=by rw[g3,kx]
     have bq:cs.size=a.flatten.length+m.flatten.length+(ab.flatten++C).length:=by
      have:=congrArg j3 aM;simp only[hU,b4]at this;rw[this,hU]
     have Q:=Ng E ae o.type (sLen:=len) (sCap:=β.cap b-off) _ a8 k1 aK (Al U) o_ (by rw[aw,bq,bg,aq];exact kw _ _);rw[<-R,<-B]at Q;have aY:cs.toList.take (off*ak+len*ak)++J.flatten++cs.toList.drop (off*ak+len*ak+J.flatten.length)=a.flatten++J.flatten++(ab.flatten++C):=by
      rw[aM,<-bg,aw,<-aq];exact FM _ _ _ _
     rw[aY]at Q;have aO:cO β H β (H.set b (.arr .exact az ak (d.take (off+len)++g++d.drop (off+len+g.length)))):=sL q (.inr (.inl ⟨_,_,_,_,_,rfl,rfl,by simp;omega⟩));have aA:¬ad (β.au b)/\¬ai (β.au b):=by
      unfold cS at k7;rw[if_neg s_]at k7;exact k7
     have a3:∀I,ad I->(w.setRow (β.au b) (a.flatten++J.flatten++(ab.flatten++C)).toArray).heap[I]?=w.heap[I]?:=fun I aX=>dz w _ I _ (fun aW=>aA.1 (aW▸aX));have hrefs:ba (aL H) (d.take (off+len)++g++d.drop (off+len+g.length)):=by
      have bm:=df.1 (f.refs b _ q);refine lU (lU ?_ a7) ?_
      ·rw[df];exact fun v u=>bm v (h2 u)
      ·rw[df];exact fun v u=>bm v (h7 u)
     have aP:=oJ q (o:=.arr .exact az ak (d.take (off+len)++g++d.drop (off+len+g.length))) (fun _ h=>h);have a0:(d.take (off+len)++g++d.drop (off+len+g.length)).length=d.length:=by simp;omega
     have aH:=uq f q hn (o':=.arr .exact az ak (d.take (off+len)++g++d.drop (off+len+g.length))) (fun S=>by cases S.1) (fun _ h=>h) k1 (new:=(a.flatten++J.flatten++(ab.flatten++C)).toArray) aA aO
      (.inr ⟨_,N,a++J++ab,C,eb w _ _ _ N _ k1,by
       refine Row.mono (fun _ x=>x) a3 aO hrefs (nu.2 ⟨_,_,rfl,nu.2 ⟨_,_,rfl,g4,U⟩,g5⟩),s_,by
       rw[<-k4,bq];simp only[ih,hU,aw,aq],by rw[a0];exact k5,fun _=>by rw[a0];exact bh,k7,(fun aQ=>by cases aQ),k8⟩) (ba.mono aP _ hrefs)
     refine⟨_,_,_,β,ad,Cn W hc V Q,.inl rfl,aH,?_,?_⟩
     ·simp only[aB,bY,b7,bA,newAt,hX];refine⟨by simp[hO],fun I bc G=>?_⟩;unfold gn at G;rw[hT (hS.1 q).1]at G;cases G;exact⟨by rw[a0];omega,(fun S=>by cases S.1),fun _=>trivial⟩
     ·simp only[aF];exact⟨_,hT (hS.1 q).1,kk _⟩
    ·rename_i av;refine⟨_,h,?_,ap,s_⟩;intro H w ad ai β ao f j ar aC;have af:H[H0.length]?=some .hole:=by simpa using aC 0 s_
     have q:H[b]?=some (.arr .exact az ak d):=ar (b,_) s_;rcases O f q (j s A.1).1 with⟨hn,_⟩|⟨hn,B,cs,N,D,C,k1,k2,k3,k4,k5,k6,k7,k8⟩
     ·cases hn.1
     have bh:=k6 rfl;obtain⟨M,aJ,aT⟩:=holds k1 k2 k3;have bi:((d.drop off).take len).length=len:=by simp;omega
     obtain⟨cap,cells,bb,br,r1,ah,aa,aj,am,an⟩:=Cc W hc V R E ae z2 aS f B (olds:=(d.drop off).take len) bi aJ
      (by rw[df];exact fun v u=>df.1 (f.refs b _ q) v (h7 (h2 u))) (aT w.drew _ _ rfl)
      (se hx (fun p t=>ar p (h3 _ t))) (j x A.2).1 (j x A.2).2 ag o_ o_
     obtain⟨q1,Y,Z⟩:=Gw (base:=H0.length) (k:=gk P T) (e:=e) (_o':=.hole) f af yh.1 (fun hn=>F (by have:=hn.2;simp at this;simp[this.2])) ah aa aj am an (fun h=>(yh.2 h).elim) (IF E.tY);rw[hU,bi]at Y Z;exact⟨_,_,_,_,ad,r1,.inl rfl,q1,Y,Z⟩
   ·
    rename_i bE bF;obtain⟨rfl,bG,h⟩:=h;have aD:k≠.frozen:=fun e=>bE e;have aQ:k≠.exact:=fun e=>bF e;have bU:(k==AK.frozen)=false:=by simpa using aD
    refine⟨_,h,?_,ap,by simpa using(hS.1 a2).1⟩;intro H w ad ai β ao f j ar _;have q:H[b]?=some (.arr k az ak d):=ar (b,_) s_;have ax:b<H.length:=(hS.1 q).1;have aR:(d.take len).length=len:=by simp;omega
    have bo:ba (aL H) (d.take len):=by rw[df];exact fun v u=>df.1 (f.refs b _ q) v (h2 u)
    have a1:¬dM k (d.take len++g):=fun S=>F (by have:=S.2;simp at this;simp[this.2]);have aP:=oJ q (o:=.arr k (az+1) ak (d.take len++g)) (fun v h=>by simp only[Obj.has]at h⊢;omega)
    have bd:∀(p:Option Addr)(aV:Nat)(M:List (List dg)),ao s= .slice p len aV->Row P w ad β H ak (d.take len) M->(eP ak len (.slice p len aV)).run P w.drew= .ok M.flatten.toArray w.drew->aV<len+g.length->
     ∃n cv w' aN aG,(dl ao o).run P w=.ok n w'/\(n=.value cv\/n=.skip/\cv=undef)/\
      ct P ai ad w β H aG w' aN (H.set b (.arr k (az+1) ak (d.take len++g)))/\aB P w' aG aN (H.set b (.arr k (az+1) ak (d.take len++g))) (.sl b (az+1) ak 0 (len+g.length)) cv/\
      aF (aL (H.set b (.arr k (az+1) ak (d.take len++g)))) (.sl b (az+1) ak 0 (len+g.length)):=by
     intro p aV M B bI bH bB;obtain⟨cap,cells,bb,br,r1,ah,aa,aj,am,an⟩:=Cc W hc V R E ae z2 aS f B (olds:=d.take len) aR bI bo bH
      (se hx (fun p t=>ar p (h3 _ t))) (j x A.2).1 (j x A.2).2 ag bB o_
     have aO:=PE (β:=β) (k':=k) (es':=d.take len++g) (au:=w.heap.size) (cap:=cap) q;have aH:ct P ai ad w β H ad {w.drew with heap:=w.heap.push (.cells cells e)} (β.at b w.heap.size cap) (H.set b (.arr k (az+1) ak (d.take len++g))):=by
      refine ct.set f ax (fun y bP=>by simp[Bd.at,bP]) (fun _ y=>y) (fun _ y=>.inl y) (fun k hk=>by have:=f.cq k hk;simp;omega) s_
       (fun k _ hk=>by simp[cd,kL hk]) (fun _=>.inl (by simp[Bd.at])) aO
       (.inr ⟨cells,e,bb,br,by simp[Bd.at],Row.mono (fun _ y=>y) (fun k hk=>by have:=f.cq k hk;simp[cd,kL this]) aO aa ah,aj,by simp[Bd.at,am],by simpa[Bd.at]using an,(fun ay=>(aQ ay).elim),by
        unfold cS;rw[if_neg (by simpa using aD)];simp only[Bd.at,if_true];exact⟨fun h=>km _ (f.cq _ h),fun h=>km _ (f.fO _ h)⟩,(fun ay=>(aD ay).elim),fun af=>E.tY▸bG af⟩)
       (ba.mono aP _ aa) (fun aJ v B ac=>by rw[q]at B;cases B;simp only[Obj.has]at ac⊢;omega) (fun L bf=>by rw[q]at bf;cases bf)
     refine⟨_,_,_,_,ad,r1,.inl rfl,aH,?_,?_⟩
     ·simp only[aB,bY,b7];refine⟨by simp[hO],fun I bc G=>?_⟩;unfold gn at G;rw[hT ax]at G;cases G;exact⟨by rw[hU,aR];omega,fun S=>(a1 S).elim,fun _=>by simp[Bd.at]⟩
     ·simp only[aF];exact⟨_,hT ax,kk _⟩
    simp only[bA,newAt,hX];rcases O f q (j s A.1).1 with⟨hn,B,rfl⟩|⟨hn,B,cs,N,D,C,k1,k2,k3,k4,k5,k6,k7,k8⟩
    ·exact bd none 0 [] B (by simp[jC]) (by simp[eP]) o_
    ·simp only[kF,Nat.sub_zero]at B
     by_cases av:len+g.length<=β.cap b
     ·
      obtain⟨J,U,a7,a8,a9⟩:=Ac (se hx (fun p t=>ar p (h3 _ t))) f (j x A.2).1 (j x A.2).2 ag;have aK:=a9 w rfl g.length (kk _);rw[i0 (by have:=(gX U).1;omega)]at aK;obtain⟨a,m,ab,g1,g2,g3,g4,g5⟩:=lV k2 0 len hlen;have bv:a=[]:=by have:=(gX g4).1;simpa using this
      subst bv;have aw:=(gX U).2;have aq:m.flatten.length=len*ak:=by have:=(gX g2).2;rw[this];congr 1
      have aM:cs.toList=m.flatten++(ab.flatten++C):=by rw[k3,g1];simp
      have bJ:=Nat.mul_le_mul_right ak av;rw[kx]at bJ;have Q:=Ng E ae o.type (off:=0) (sLen:=len) (sCap:=β.cap b) _ a8 k1 aK (Al U) av (by rw[aw,k4];omega);rw[<-R,<-B]at Q;obtain⟨aU,bn⟩:∃r,r=cs.toList.drop (len*ak+J.flatten.length):=⟨_,rfl⟩
      have aY:cs.toList.take (0+len*ak)++J.flatten++cs.toList.drop (0+len*ak+J.flatten.length)=(m++J).flatten++aU:=by
       rw[kv,<-bn];congr 1;rw[aM,<-aq];simp
      rw[aY]at Q;have aA:¬ad (β.au b)/\¬ai (β.au b):=by
       unfold cS at k7;rw[if_neg (by simpa using aD)]at k7;exact k7
      have aO:cO β H β (H.set b (.arr k (az+1) ak (d.take len++g))):=by
       have:=PE (β:=β) (k':=k) (es':=d.take len++g) (au:=β.au b) (cap:=β.cap b) q
       rwa [Bd.ato]at this
      have a3:∀I,ad I->(w.setRow (β.au b) ((m++J).flatten++aU).toArray).heap[I]?=w.heap[I]?:=fun I aX=>dz w _ I _ (fun aW=>aA.1 (aW▸aX));have hrefs:ba (aL H) (d.take len++g):=lU bo a7;have aH:=uq f q hn (o':=.arr k (az+1) ak (d.take len++g)) a1 (fun v h=>by simp only[Obj.has]at h⊢;omega) k1 (new:=((m++J).flatten++aU).toArray) aA aO
       (.inr ⟨_,N,m++J,aU,eb w _ _ _ N _ k1,by
        refine Row.mono (fun _ x=>x) a3 aO hrefs (nu.2 ⟨_,_,rfl,?_,U⟩);simpa using g2,s_,by
        rw[<-k4];simp only[ih,hU,ix,aw,aq,bn,List.length_drop,b4,k4];omega,by rw[hU,aR];exact av,(fun ay=>(aQ ay).elim),k7,(fun h=>(aD h).elim),k8⟩) (ba.mono aP _ hrefs)
      refine⟨_,_,_,β,ad,Cn W hc V Q,.inl rfl,aH,?_,?_⟩
      ·simp only[aB,bY,b7];refine⟨by simp[hO],fun I bc G=>?_⟩;unfold gn at G;rw[hT ax]at G;cases G;exact⟨by rw[hU,aR];omega,fun S=>(a1 S).elim,fun _=>by simp⟩
      ·simp only[aF];exact⟨_,hT ax,kk _⟩
     ·obtain⟨M,aJ,aT⟩:=holds k1 k2 k3;simp only[j4,kF]at aJ aT;exact bd _ _ M B aJ (aT w.drew _ _ rfl) o_
 ·exact h.elim
end
section
variable{P:dd}{w:dq}{ad ai:Nat->Prop}{β:Bd}{H:al}
variable{o:Oper}{ρ:da->AV}{base:Nat}
def kl(bs:ByteArray):List Nat:=bs.data.toList.map (·.toNat)
theorem FI:∀{a b:List UInt8},a.map (·.toNat)=b.map (·.toNat)->a=b
 |[],[],_=>rfl
 |[],_::_,h=>by simp at h
 |_::_,[],h=>by simp at h
 |x::a,y::b,h=>by
  simp at h;rw[lq.1 h.1,FI h.2]
theorem bytes_beq(a b:ByteArray):(a.toList==b.toList)=(kl a==kl b):=by
 rw[gi,gi];unfold kl
 by_cases h:a.data.toList=b.data.toList
 ·simp[h]
 ·have d:¬(a.data.toList.map (·.toNat)=b.data.toList.map (·.toNat)):=fun c=>h (FI c)
  rw[beq_eq_false_iff_ne.2 h,beq_eq_false_iff_ne.2 d]
theorem MJ:∀a b:List UInt8,ho a b=kU (a.map (·.toNat)) (b.map (·.toNat))
 |[],[]=>rfl
 |_::_,[]=>rfl
 |[],_::_=>rfl
 |x::a,y::b=>by
  simp only[ho,hW,kU,MJ a b];congr 1
  ·congr 1
   by_cases h:x=y
   ·simp[h]
   ·have:¬x.toNat=y.toNat:=fun c=>h (lq.1 c);rw[beq_eq_false_iff_ne.2 h,beq_eq_false_iff_ne.2 this]
theorem aPD{c:dy}{T j:db}{x y:da}{a b:List Nat}{K:PV->Prop}(g:o.op= .binOp c T x y j)(hx:ρ x= .p (.str a))(u:ρ y= .p (.str b))
 (h:tq c a b K)(ar:List (Nat×Obj)):∃v,K v/\bD P o ρ base {v:=.p v,ar}:=by
 have key:∀v,K v->(∀(w:dq)(ad:Nat->Prop)(s t:ByteArray),a=kl s->b=kl t->∃r,(hv c s t).run P w=.ok r w/\aE P w ad v r)->∃v,K v/\bD P o ρ base {v:=.p v,ar}:=by
  intro v q n;refine⟨v,q,bD.same fun H w ad ai β B A i _=>?_⟩;have e:=(i x (by simp[g,hj])).1;have f:=(i y (by simp[g,hj])).1;rw[hx]at e;rw[u]at f;simp only[aB,Rz]at e f;obtain⟨s,e1,e2⟩:=e;obtain⟨t,e3,e4⟩:=f;obtain⟨r,r1,z⟩:=n w ad s t e2 e4;refine⟨r,?_,by simpa only[aB]using z,by simp[aF]⟩;simp only[dl,g,e1,e3];refine fI ?_;have l:(eqGuard c T x y (.string s) (.string t)).run P w=.ok () w:=by
   unfold eqGuard
   split<;>simp
  have k:(binOp c T (.string s) (.string t)).run P w=.ok r w:=by
   cases c<;>first|(simp[tq]at h;done)|exact r1
  simp[l,k]
 have m:∀s t:ByteArray,a=kl s->b=kl t->ho s.toList t.toList=kU a b/\(s.toList==t.toList)=(a==b):=by
  intro s t hs d;rw[bytes_beq,<-hs,<-d,MJ,gi,gi];exact⟨by rw[hs,d];rfl,rfl⟩
 cases c<;>simp only[tq]at h
 case add=>
  refine key _ h.2 fun w ad s t hs d=>⟨.string (s++t),run_string_add_sum w s t ?_,?_⟩
  ·have e:a.length=s.size:=by rw[hs];simp[kl]
   have f:b.length=t.size:=by rw[d];simp[kl]
   omega
  ·rw[Rz];exact⟨_,rfl,by rw[hs,d];simp[kl,ByteArray.data_append]⟩
 case eql|neq|lss|leq|gtr|geq=>
  refine key _ h fun w ad s t hs d=>?_;obtain⟨e1,e2⟩:=m s t hs d;exact⟨_,by simp only[hv,e1,e2];rfl,by simp[aE]⟩
theorem XN{T:db}(h:uZ P T=true):P.underlying T=some .bool:=by
 unfold uZ at h
 split at h
 ·assumption
 ·simp at h
theorem MB{T:db}{a b:dg}{r:Bool}{w:dq}(h:(hm T a b).run P w= .ok r w)(d:(∃x,a= .bool x)\/(∃x,a= .agg x)\/(∃p n c,a= .slice p n c)\/(∃m,a= .map m)\/a= .nilFunc\/(∃f x y,a= .func f x y)\/(∃p,a= .pointer p)\/a= .nilIface):
 (binOp .eql T a b).run P w=.ok (.bool r) w/\(binOp .neq T a b).run P w=.ok (.bool !r) w:=by
 rcases d with⟨x,rfl⟩|⟨x,rfl⟩|⟨p,n,c,rfl⟩|⟨m,rfl⟩|rfl|⟨f,x,y,rfl⟩|⟨p,rfl⟩|rfl
 all_goals (constructor<;>(unfold binOp;simp[h]))
def ly.isAgg:ly->Bool
 | .agg _=>true
 |_=>false
theorem atm{T:db}{t:ly}(hk:kindOf P T=t)(a:t≠.bad)(w:dq):(isAgg T).run P w=.ok t.isAgg w:=by
 unfold kindOf at hk;cases hu:P.underlying T with
 |none=>rw[hu]at hk;simp at hk;exact(a hk.symm).elim
 |some d=>
  rw[hu]at hk;simp only[isAgg,hG,c9 hu,hE];cases d<;>simp only at hk<;>(split at hk<;>first|(subst hk;rfl)|exact(a hk.symm).elim)
theorem u6{F:db}{v:PV}{pre c post:List dg}{cs:Array dg}(hk:kindOf P F=aK v)(b:bd P w ad v c)(e:cs.toList=pre++c++post):
 ∃x,(part F cs pre.length).run P w=.ok x w/\aE P w ad v x:=by
 obtain⟨j,i,f,g⟩:=Ce (v:=.p v) (β:=⟨id,id⟩) (H:=[]) (w:=w) (ad:=ad) hk (by simpa only[bC]using b);have d:=(sH b).2;have a:=atm hk d w;cases hs:aK v with
 |bad=>exact(d hs).elim
 |leaf=>
  rw[hs]at a;obtain⟨x,rfl,hx⟩:=(xB hs c).1 b;refine⟨x,?_,hx⟩;have:cs[pre.length]?=some x:=by rw[<-b3,e];simp
  simp[part,a,this,ly.isAgg]
 |agg u=>
  rw[hs]at a;refine⟨.agg c.toArray,?_,(An hs c).1 b⟩;have h:(sizeOf F).run P w=.ok c.length w:=by simp[sizeOf,typeInfo,f,g]
  have:cs.extract pre.length (pre.length+c.length)=c.toArray:=by
   apply b2;rw[Array.toList_extract,e];simp[List.extract_eq_take_drop]
  simp[part,a,h,this,ly.isAgg]
theorem Am{n:Nat}{b:List Nat}{v:PV}{vs:List PV}{a:List (List dg)}(h:bt P w ad (n::b) (v::vs) a):∃c cs,a=c::cs/\bd P w ad v c/\c.length=n/\bt P w ad b vs cs:=by
 simpa only[bt]using h
theorem MH{eqF:db->PV->PV->Option Bool}{d:Nat}(A:∀F a b r,eqF F a b=some r->kindOf P F=aK a->kindOf P F=aK b->∀x y,aE P w ad a x->aE P w ad b y->(hl d F x y).run P w= .ok r w){X Y:Array dg}:
 ∀(fs:List ej)(l:List Nat)(j k:List PV)(r:Bool)(h m:List dg)(o p:List (List dg)),ju P eqF (fs.map (·.type)) j k=some r->fs.all (fun f=>f.name != "_")=true->
 (∀(i:Nat)(f:ej),fs[i]?=some f->f.offset=h.length+(l.take i).sum)->bt P w ad l j o->bt P w ad l k p->h.length=m.length->
 X.toList=h++o.flatten->Y.toList=m++p.flatten->(hp d X Y fs).run P w=.ok r w
 |[],l,j,k,r,h,m,o,p,e,_,_,_,_,_,_,_=>by
  cases j<;>cases k<;>simp[ju]at e;subst e;simp[hp]
 |f::fs,l,j,k,r,h,m,o,p,e,hn,u,hx,J,z,s,hY=>by
  cases j with
  |nil=>simp[ju]at e
  |cons a j=>
   cases k with
   |nil=>simp[ju]at e
   |cons b k=>
    cases l with
    |nil=>simp[bt]at hx
    |cons n l=>
     simp only[hW,ju]at e
     split at e
     case isFalse=>simp at e
     rename_i hk
     split at e
     case h_2=>simp at e
     rename_i r1 L C D;simp at e;subst e;obtain⟨c,cs,rfl,hc,t,I⟩:=Am hx;obtain⟨c',q,rfl,E,G,K⟩:=Am J;simp only[List.all_cons,cx,bne_iff_ne]at hn;have v:f.offset=h.length:=by simpa using u 0 f s_
     obtain⟨x,B,N⟩:=u6 hk.1 hc (pre:=h) (post:=cs.flatten) (cs:=X) (by rw[s];simp);obtain⟨y,y1,y2⟩:=u6 hk.2 E (pre:=m) (post:=q.flatten) (cs:=Y) (by rw[hY];simp);have e1:=A _ _ _ _ C hk.1 hk.2 x y N y2;rw[<-v]at B;rw[<-z,<-v]at y1;have M:=MH A fs l j k L (h++c) (m++c') cs q D hn.2 (by
      intro i g H;have:=u (i+1) g (by simpa using H);rw[this,j6,kc,hU,t];omega) I K (by simp[z,t,G]) (by rw[s];simp) (by rw[hY];simp)
     simp only[hp,hn.1,ne_eq,not_false_eq_true,if_true,hG,B,y1,e1,hE];cases r1 with
     |false=>simp
     |true=>simpa using M
theorem Kp{eqF:db->PV->PV->Option Bool}{d:Nat}{e:db}(u:∀a b r,eqF e a b=some r->∀x y,aE P w ad a x->aE P w ad b y->(hl d e x y).run P w= .ok r w){X Y:Array dg}:
 ∀(n k:Nat)(g h:List PV)(r:Bool)(i j:List dg)(l m:List (List dg)),ju P eqF (hV n e) g h=some r->
 bt P w ad (hV n (P.cellsOf e)) g l->bt P w ad (hV n (P.cellsOf e)) h m->i.length=k*P.cellsOf e->j.length=k*P.cellsOf e->
 X.toList=i++l.flatten->Y.toList=j++m.flatten->(ht d e (P.cellsOf e) X Y (List.range' k n)).run P w=.ok r w
 |0,k,g,h,r,i,j,l,m,f,_,_,_,_,_,_=>by
  cases g<;>cases h<;>simp[ju]at f;subst f;simp[ht]
 |n+1,k,g,h,r,i,j,l,m,f,hx,t,q,s,p,hY=>by
  cases g with
  |nil=>simp[jp,ju]at f
  |cons a g=>
   cases h with
   |nil=>simp[jp,ju]at f
   |cons b h=>
    rw[jp]at f hx t;simp only[ju]at f
    split at f
    case isFalse=>simp at f
    rename_i hk
    split at f
    case h_2=>simp at f
    rename_i r1 G z A;simp at f;subst f;obtain⟨c,cs,rfl,hc,C,E⟩:=Am hx;obtain⟨c',o,rfl,B,D,F⟩:=Am t;obtain⟨x,v,I⟩:=u6 hk.1 hc (pre:=i) (post:=cs.flatten) (cs:=X) (by rw[p];simp);obtain⟨y,y1,y2⟩:=u6 hk.2 B (pre:=j) (post:=o.flatten) (cs:=Y) (by rw[hY];simp);have e1:=u _ _ _ z x y I y2;rw[q]at v;rw[s]at y1;have H:=Kp u n (k+1) g h G (i++c) (j++c') cs o A E F (by rw[hU,q,C,kH]) (by rw[hU,s,D,kH]) (by rw[p];simp) (by rw[hY];simp);rw[List.range'_succ];simp only[ht,hG,v,y1,e1,hE];cases r1 with
    |false=>simp
    |true=>simpa using H
theorem CZ:∀(n:Nat)(T:db)(v v':PV)(r:Bool),gE P n T v v'=some r->∀x y,aE P w ad v x->aE P w ad v' y->∀d,n<=d->(hl d T x y).run P w=.ok r w
 |0,_,_,_,_,h,_,_,_,_,_,_=>by simp[gE]at h
 |n+1,T,v,v',r,h,x,y,hx,g,d,L=>by
  obtain⟨d,rfl⟩:∃e,d=e+1:=⟨d-1,o_⟩
  unfold gE at h
  split at h
  ·rename_i a b c;simp at h;subst h;simp only[aE]at hx g;subst hx;subst g;simp[hl,c9 c]
  ·rename_i k0 k a M b c
   split at h
   case isFalse=>simp at h
   rename_i hk;subst hk;simp at h;subst h;simp only[aE]at hx g;subst hx;subst g;exact run_equalIn_int w d T k k0 a b c
  ·rename_i a b c;simp at h;subst h;simp only[aE]at hx g;obtain⟨s,rfl,hs⟩:=hx;obtain⟨t,rfl,H⟩:=g;rw[run_equalIn_string w d T s t c,bytes_beq,hs,H];rfl
  ·rename_i fs u A u' B c
   split at h
   case isFalse=>simp at h
   rename_i hc;obtain⟨hk,rfl,G,E⟩:=hc;simp only[aE]at hx g;obtain⟨l,j,k1,k2,rfl⟩:=hx;obtain⟨D,o,k3,k4,rfl⟩:=g;rw[k1]at k3;cases k3;obtain⟨K,D,s1,s2,q,z,N,I⟩:=zt (P:=P) (T:=T) (u:=u') (n:=fs.size) (by unfold fB;rw[hk,c]);rw[c]at s1;cases s1;rw[k1]at z;cases z;have C:P.fieldsOf T=fs:=by simp[Program.fieldsOf,c]
   rw[run_equalIn_struct w d T _ _ (by rw[C];exact c) G,C];refine MH (eqF:=gE P n) (fun F a b r p _ _ x y hx g=>CZ n F a b r p x y hx g d o_) fs.toList l A B r [] [] j o h E ?_ k2 k4 rfl s_ s_;intro i f hf;have hi:i<fs.size:=by
    have:=(hS.1 hf).1;simpa using this
   obtain⟨J,g1,g2,_⟩:=I i hi;rw[b3,g1]at hf;cases hf;simpa using g2
  ·rename_i m e u A u' B c
   split at h
   case isFalse=>simp at h
   rename_i hc;obtain⟨hk,rfl,hi⟩:=hc;simp only[aE]at hx g;obtain⟨l,j,k1,k2,rfl⟩:=hx;obtain⟨D,o,k3,k4,rfl⟩:=g;rw[k1]at k3;cases k3;obtain⟨e',s1,s2,q,z⟩:=xE (P:=P) (T:=T) (u:=u') (n:=m) (by unfold jr;rw[hk,c]);rw[c]at s1;cases s1;rw[k1]at q;cases q;obtain⟨i,hi⟩:=kX.1 hi;rw[run_equalIn_array w d _ _ c hi,List.range_eq_range'];exact Kp (eqF:=gE P n) (fun a b r p x y hx g=>CZ n e a b r p x y hx g d o_) m 0 A B r [] [] j o h k2 k4 s_ s_ s_ s_
  ·simp at h
end
section
variable{P:dd}{w:dq}{ad ai:Nat->Prop}{β:Bd}{H:al}
variable{o:Oper}{ρ:da->AV}{base:Nat}
theorem HU{d:dy}{T C:db}{x y:da}{r:Bool}{K:PV->Prop}{l:List (Nat×Obj)}(k:o.op= .binOp d T x y C)
 (D:d=.eql/\K (.bool r)\/d=.neq/\K (.bool !r))
 (I:∀(H:al)(w:dq)(ad ai:Nat->Prop)(β:Bd)(a b:dg),cB P w ad β H ai->(∀p∈l,H[p.1]?=some p.2)->aB P w ad β H (ρ x) a->aB P w ad β H (ρ y) b->(hm T a b).run P w=.ok r w/\
  ((∃x,a=.bool x)\/(∃x,a=.agg x)\/(∃p n c,a=.slice p n c)\/(∃m,a=.map m)\/a=.nilFunc\/(∃f x y,a=.func f x y)\/(∃p,a=.pointer p)\/(a=.nilIface/\pC y=true))/\(∀u v,a=.agg u->b=.agg v->P.eqGuardType P.depth T=false)):
 ∃v,K v/\bD P o ρ base {v:=.p v,ar:=l}:=by
 have key:∀v,K v->(∀(w:dq)(a b:dg),(hm T a b).run P w= .ok r w->((∃x,a= .bool x)\/(∃x,a= .agg x)\/(∃p n c,a= .slice p n c)\/(∃m,a= .map m)\/a= .nilFunc\/(∃f x y,a= .func f x y)\/(∃p,a= .pointer p)\/a= .nilIface)->
  ∃q,v=.bool q/\(binOp d T a b).run P w=.ok (.bool q) w)->∃v,K v/\bD P o ρ base {v:=.p v,ar:=l}:=by
  intro v J hq;refine⟨v,J,bD.same fun H w ad ai β s G t ar=>?_⟩;obtain⟨r1,z,A⟩:=I H w ad ai β _ _ G ar (t x (by simp[k,hj])).1 (t y (by simp[k,hj])).1;obtain⟨q,rfl,F⟩:=hq w _ _ r1 (by rcases z with h|h|h|h|h|h|h|h<;>simp[h]);refine⟨.bool q,?_,by simp[aB,aE],by simp[aF]⟩;simp only[dl,k];refine fI ?_;have E:(eqGuard d T x y (s x) (s y)).run P w=.ok () w:=by
   rcases z with⟨p,e⟩|⟨p,e⟩|⟨p,n,c,e⟩|⟨m,e⟩|e|⟨f,L,M,e⟩|⟨p,e⟩|⟨e,hc⟩
   all_goals rw[e]at A⊢
   case inr.inl=>
    cases hy:s y with
    |agg B=>
     exact run_eqGuard_agg w d T x y p B (A p B rfl hy)
    |_=>cases d<;>rfl
   case inr.inr.inr.inr.inr.inr.inr=>
    cases y<;>simp[pC]at hc;unfold eqGuard;cases d<;>simp<;>(split<;>simp_all)
   all_goals (cases d<;>rfl)
  simp[E,F]
 rcases D with⟨rfl,j⟩|⟨rfl,j⟩
 ·exact key _ j fun w a b g i=>⟨_,rfl,(MB g i).1⟩
 ·exact key _ j fun w a b g i=>⟨_,rfl,(MB g i).2⟩
theorem CU(T:db)(a b:dg):∃d,9<=d+1/\hm T a b=hl (d+1) T a b:=⟨9999,o_,rfl⟩
theorem N3{T:db}{c:Bool}{b:AV}{k:yR}(h:et P T c b=some k):
 (k=.ptr/\b=.p .eO/\∃e,P.underlying T=some (.pointer e))\/(k=.slice/\b=.p .aI/\∃e,P.underlying T=some (.slice e))\/
 (k=.map/\b=.p .gu/\∃e f,P.underlying T=some (.map e f))\/(k=.func/\b=.p .jI/\∃e f g,P.underlying T=some (.func e f g))\/(k=.iface/\b=.p .iG/\c=true/\∃m,P.underlying T=some (.interface m)):=by
 unfold et at h
 split at h<;>first
  |(split at h
    ·rename_i a;simp at h;subst h;simp[a]
    ·simp at h)
  |simp at h
theorem aPj{T:db}{c:Bool}{H0:al}{a b:AV}{r:Bool}{k:yR}(hk:et P T c b=some k)(h:dB H0 k a=some r){l q:dg}(ar:∀p∈ez H0 a,H[p.1]?=some p.2)(i:aB P w ad β H a l)(B:aB P w ad β H b q):
 (hm T l q).run P w=.ok r w/\((∃x,l=.bool x)\/(∃x,l=.agg x)\/(∃p n c,l=.slice p n c)\/(∃m,l=.map m)\/l=.nilFunc\/(∃f x y,l=.func f x y)\/(∃p,l=.pointer p)\/(l=.nilIface/\c=true))/\(∀u v,l=.agg u->q=.agg v->P.eqGuardType P.depth T=false):=by
 obtain⟨d,_,G⟩:=CU T l q;rw[G];rcases N3 hk with⟨rfl,rfl,e,j⟩|⟨rfl,rfl,e,j⟩|⟨rfl,rfl,e,f,j⟩|⟨rfl,rfl,e,f,g,j⟩|⟨rfl,rfl,F,m,j⟩
 all_goals simp only[aB,aE]at B
 all_goals subst B
 ·cases a<;>simp only[dB]at h
  case p v=>
   cases v<;>simp only at h<;>simp at h
   all_goals subst h
   all_goals simp only[aB,aE]at i
   ·subst i;simp[hl,c9 j]
   ·obtain⟨_,_,_,_,_,_,rfl⟩:=i;simp[hl,c9 j]
  case ptr A path=>
   simp only[aB,bY,b7]at i;obtain⟨_,_,_,_,rfl,_⟩:=i
   split at h
   ·simp at h;subst h;simp[hl,c9 j]
   ·simp at h
  all_goals simp at h
 ·cases a<;>simp only[dB]at h
  case p v=>
   cases v
   case seq o=>
    cases o with
    |nil=>simp at h
    |cons e o=>
     simp at h;subst h;simp only[aB,aE]at i;rcases i with⟨I,_⟩|⟨_,_,_,_,_,_,_,_,_,_,_,rfl⟩
     ·cases I
     ·simp[hl,c9 j]
   all_goals simp only at h
   all_goals simp at h
   all_goals subst h
   all_goals simp only[aB,aE]at i
   ·subst i;simp[hl,c9 j]
   ·obtain⟨_,_,_,_,_,_,_,_,_,_,_,_,rfl⟩:=i;simp[hl,c9 j]
  case sl A az ak off len=>
   simp only[aB,bY,b7]at i;simp only[ez]at ar
   split at h
   case h_2=>simp at h
   rename_i z L K o s;rw[s]at ar;have t:=ar _ (iz.2 rfl)
   split at h
   case isFalse=>simp at h
   rename_i hc;obtain⟨rfl,rfl⟩:=hc;obtain⟨_,D,E⟩:=i.2 z o t
   by_cases hn:dM z o
   ·rw[D hn];have:r=true:=by simp at h;rw[<-h];simp[hn.1,hn.2]
    subst this;simp[hl,c9 j]
   ·rw[E hn];have:r=false:=by
     simp at h;rw[<-h];unfold dM at hn
     by_cases C:z.gr=true
     ·have J:o≠[]:=fun h=>hn ⟨C,h⟩;simp[J]
     ·simp[C]
    subst this;simp[hl,c9 j]
  all_goals simp at h
 ·cases a<;>simp only[dB]at h
  case p v=>
   cases v<;>simp only at h<;>simp at h
   all_goals subst h
   all_goals simp only[aB,aE]at i
   ·subst i;simp[hl,c9 j]
   ·obtain⟨_,_,_,_,_,_,rfl⟩:=i;simp[hl,c9 j]
  case map A=>
   simp only[aB,bY,b7]at i;simp only[ez]at ar
   split at h
   case h_2=>simp at h
   rename_i fz o s;rw[s]at ar;have t:=ar _ (iz.2 rfl);rw[i.2.1 ⟨_,t,trivial⟩];simp at h;subst h;simp[hl,c9 j]
  all_goals simp at h
 ·cases a<;>simp only[dB]at h
  case p v=>
   cases v<;>simp only at h<;>simp at h
   all_goals subst h
   all_goals simp only[aB,aE]at i
   ·obtain⟨_,_,_,_,rfl⟩:=i;simp[hl,c9 j]
   ·subst i;simp[hl,c9 j]
  case func f first jF=>
   simp only[aB]at i;obtain⟨_,_,_,_,rfl⟩:=i;simp at h;subst h;simp[hl,c9 j]
  all_goals simp at h
 ·cases a<;>simp only[dB]at h
  case p v=>
   cases v<;>simp only at h<;>simp at h
   all_goals subst h
   all_goals simp only[aB,aE]at i
   subst i;simp[hl,c9 j,F]
  all_goals simp at h
theorem aPu{i:dy}{T s:db}{x y:da}{K:PV->Prop}{H0:al}(j:o.op= .binOp i T x y s)(h:mI P i T (pC y) H0 (ρ x) (ρ y) K):
 ∃v,K v/\bD P o ρ base {v:=.p v,ar:=ez H0 (ρ x)}:=by
 unfold mI at h
 split at h
 ·rename_i k a C b hx g;exact aPy j hx g h.1 h.2 _
 ·rename_i a b hx g;exact aPD j hx g h _
 ·rename_i a b hx g;obtain⟨z,h⟩:=h;have m:=XN z;refine HU (r:=a==b) j ?_ ?_
  ·split at h
   ·exact .inl ⟨rfl,h⟩
   ·exact .inr ⟨rfl,h⟩
   ·exact h.elim
  ·intro H w ad ai β n q e ar f c;rw[hx]at f;rw[g]at c;simp only[aB,aE]at f c;subst f;subst c;obtain⟨d,_,l⟩:=CU T (.bool a) (.bool b);rw[l];exact⟨by simp[hl,c9 m],.inl ⟨_,rfl⟩,fun u v m _=>by cases m⟩
 ·rename_i u fs u' t hx g;obtain⟨B,h⟩:=h;obtain⟨r,e,c⟩:∃r,gE P 9 T (.st u fs) (.st u' t)=some r/\(i=.eql/\K (.bool r)\/i=.neq/\K (.bool !r)):=by
   split at h
   ·rename_i r e;exact⟨r,e,.inl ⟨rfl,h⟩⟩
   ·rename_i r e;exact⟨r,e,.inr ⟨rfl,h⟩⟩
   ·exact h.elim
  refine HU (r:=r) j c ?_;intro H w ad ai β n q _ ar f c;rw[hx]at f;rw[g]at c;simp only[aB]at f c;refine⟨?_,?_,fun u v _ _=>by simpa[qp]using B⟩
  ·obtain⟨d,A,l⟩:=CU T n q;rw[l];exact CZ 9 T _ _ r e _ _ f c (d+1) A
  ·simp only[aE]at f;obtain⟨_,_,_,_,rfl⟩:=f;exact .inr (.inl ⟨_,rfl⟩)
 ·rename_i hx g
  split at h
  case h_2=>exact h.elim
  rename_i k hk;obtain⟨r,e,c⟩:∃r,dB H0 k (ρ x)=some r/\(i=.eql/\K (.bool r)\/i=.neq/\K (.bool !r)):=by
   split at h
   ·rename_i r e;exact⟨r,e,.inl ⟨rfl,h⟩⟩
   ·rename_i r e;exact⟨r,e,.inr ⟨rfl,h⟩⟩
   ·exact h.elim
  exact HU (r:=r) j c fun H w ad ai β n q _ ar f c=>aPj hk e ar f c
end
section
variable{P:dd}{w:dq}{ad ai:Nat->Prop}{β:Bd}{H:al}
variable{o:Oper}{ρ:da->AV}{base:Nat}
theorem q7{c:da->dg}:∀(l:List da),(∀x∈l,aB P w ad β H (ρ x) (c x)/\aF (aL H) (ρ x))->bH P w ad β H (l.map ρ) (l.map c)/\ba (aL H) (l.map ρ)
 |[],_=>by simp[bH,ba]
 |x::l,h=>by
  have a:=h x s_;have b:=q7 l (fun y d=>h y (by simp[d]));simp only[hW,bH,ba];exact⟨⟨_,_,rfl,a.1,b.1⟩,a.2,b.2⟩
theorem CO{H0:al}:∀(l:List AV){j:List PV}{ar aM:List (Nat×Obj)}{H:al}{ad:Nat->Prop}{vs:List dg},gO H0 l=some (j,ar,aM)->cB P w ad β H ai->bH P w ad β H l vs->ba (aL H) l->
 (∀p∈ar,∃f fz t,p.2=.box fz t/\H[p.1]?=some (.box f t))->∃aG,ct P ai ad w β H aG w β (bA H aM)/\bG P w aG j vs/\∀p∈aM,p.1<H0.length/\p.2≠.hole
 |[],j,ar,aM,H,ad,vs,h,i,e,_,_=>by
  simp[gO]at h;obtain⟨rfl,rfl,rfl⟩:=h;simp only[bH]at e;exact⟨ad,ct.refl i,by simpa[bG]using e,s_⟩
 |a::l,j,ar,aM,H,ad,vs,h,i,e,d,m=>by
  simp only[bH]at e;obtain⟨y,x,rfl,n,u⟩:=e;simp only[ba]at d;cases a with
  |p v=>
   simp only[gO]at h
   split at h
   case h_2=>simp at h
   rename_i G B E k;simp at h;obtain⟨rfl,rfl,rfl⟩:=h;obtain⟨aG,q1,o,q⟩:=CO l k i u d.2 m;simp only[aB]at n;exact⟨aG,q1,by simp only[bG];exact⟨y,x,rfl,aE.mono q1.cq (fun _ _=>rfl) _ _ n,o⟩,q⟩
  |ptr b path=>
   cases path with
   |cons _ _=>simp[gO]at h
   |nil=>
    simp only[gO]at h
    split at h
    case h_2=>simp at h
    rename_i fz t G B E C k;simp at h;obtain⟨rfl,rfl,rfl⟩:=h;obtain⟨f,J,K,e1,e2⟩:=m (b,.box fz (.p t)) s_;cases e1;have D:mh H (.ptr b [])=some (.cM t,H.set b (.box true (.p t))):=by
     simp only at e2;simp[mh,e2,ng]
    obtain⟨I,g,F⟩:=OL D i n d.1;have A:b<H.length:=(hS.1 e2).1;obtain⟨z,q1,o,q⟩:=CO l k g.rel (bH.mono g.cq (fun _ _=>rfl) g.step _ _ d.2 u) (ba.mono g.gU _ d.2) (by
     intro p c;obtain⟨f2,r,t2,g1,g2⟩:=m p (by simp[c])
     by_cases s:b=p.1
     ·rw[<-s]at g2⊢;simp only at e2;rw[e2]at g2;cases g2;exact⟨true,r,_,g1,by rw[hT A]⟩
     ·exact⟨f2,r,t2,g1,by rw[h4 s];exact g2⟩)
    refine⟨z,by simpa only[bA]using g.trans q1,?_,?_⟩
    ·simp only[bG];exact⟨y,x,rfl,aE.mono q1.cq (fun _ _=>rfl) _ _ F,o⟩
    ·intro p c;rcases hZ.1 c with rfl|c
     ·exact⟨(hS.1 C).1,s_⟩
     ·exact q p c
  |_=>simp[gO]at h
theorem YQ{f:dp}{fi ca:Array da}(E:o.op= .makeFunc (.func f) fi ca):
 (∀a b,fq (fi.toList.map ρ)=some a->fq (ca.toList.map ρ)=some b->bD P o ρ base {v:=.p (.func f a b)})/\
 bD P o ρ base {v:=.func f (fi.toList.map ρ) (ca.toList.map ρ)}/\
 (∀(H0:al) a b ar aM,gO H0 (fi.toList.map ρ)=some (a,[],[])->gO H0 (ca.toList.map ρ)=some (b,ar,aM)->bD P o ρ base {v:=.p (.func f a b),ar,aM}/\(∀p∈ar,H0[p.1]?=some p.2)/\(∀p∈aM,p.1<H0.length/\p.2≠.hole)):=by
 have g:∀x,x∈fi.toList\/x∈ca.toList->x∈o.op.operands:=by
  intro x hx;rw[E];simp only[hj,Array.mem_append];simpa using hx
 have u:∀(c:da->dg)(w:dq),(dl c o).run P w=.ok (.value (.func (.func f) (fi.toList.map c).toArray (ca.toList.map c).toArray)) w:=by
  intro c w;simp only[dl,E];refine fI ?_;have j:(fi.toList.map c).toArray=fi.map c:=by apply b2;simp
  have k:(ca.toList.map c).toArray=ca.map c:=by apply b2;simp
  rw[j,k];simp[Instr.makeFunc]
 refine⟨?_,?_,?_⟩
 ·intro a b s m;refine bD.same fun H w ad ai β c z e _=>⟨_,u c w,?_,by simp[aF]⟩
  obtain⟨j,_⟩:=q7 fi.toList (fun x hx=>e x (g x (.inl hx)));obtain⟨k,_⟩:=q7 ca.toList (fun x hx=>e x (g x (.inr hx)));rw[oC s]at j;rw[oC m]at k;simp only[aB,aE];exact⟨_,_,lG.1 j,lG.1 k,rfl⟩
 ·refine bD.same fun H w ad ai β c z e _=>⟨_,u c w,?_,?_⟩
  ·simp only[aB];exact⟨_,_,(q7 fi.toList (fun x hx=>e x (g x (.inl hx)))).1,(q7 ca.toList (fun x hx=>e x (g x (.inr hx)))).1,rfl⟩
  ·simp only[aF];exact⟨(q7 fi.toList (fun x hx=>e x (g x (.inl hx)))).2,(q7 ca.toList (fun x hx=>e x (g x (.inr hx)))).2⟩
 ·intro H0 a b ar aM s m;have D:∀p∈ar,H0[p.1]?=some p.2/\∃fz t,p.2=.box fz t:=by
   have:∀(l:List AV)(b:List PV)(ar aM:List (Nat×Obj)),gO H0 l=some (b,ar,aM)->∀p∈ar,H0[p.1]?=some p.2/\∃fz t,p.2=.box fz t:=by
    intro l
    induction l with
    |nil=>intro b ar aM h;simp[gO]at h;obtain⟨rfl,rfl,rfl⟩:=h;simp
    |cons x l q=>
     intro b ar aM h;cases x with
     |p v=>
      simp only[gO]at h
      split at h
      case h_2=>simp at h
      rename_i B n A i;simp at h;obtain⟨rfl,rfl,rfl⟩:=h;exact q _ _ _ i
     |ptr J path=>
      cases path with
      |cons _ _=>simp[gO]at h
      |nil=>
       simp only[gO]at h
       split at h
       case h_2=>simp at h
       rename_i fz t B n A y i;simp at h;obtain⟨rfl,rfl,rfl⟩:=h;intro p d;rcases hZ.1 d with rfl|d
       ·exact⟨y,_,_,rfl⟩
       ·exact q _ _ _ i p d
     |_=>simp[gO]at h
   exact this _ _ _ _ m
  have K:∀p∈aM,p.1<H0.length/\p.2≠.hole:=by
   have:∀(l:List AV)(b:List PV)(ar aM:List (Nat×Obj)),gO H0 l=some (b,ar,aM)->∀p∈aM,p.1<H0.length/\p.2≠.hole:=by
    intro l
    induction l with
    |nil=>intro b ar aM h;simp[gO]at h;obtain⟨rfl,rfl,rfl⟩:=h;simp
    |cons x l q=>
     intro b ar aM h;cases x with
     |p v=>
      simp only[gO]at h
      split at h
      case h_2=>simp at h
      rename_i B n A i;simp at h;obtain⟨rfl,rfl,rfl⟩:=h;exact q _ _ _ i
     |ptr J path=>
      cases path with
      |cons _ _=>simp[gO]at h
      |nil=>
       simp only[gO]at h
       split at h
       case h_2=>simp at h
       rename_i fz t B n A y i;simp at h;obtain⟨rfl,rfl,rfl⟩:=h;intro p d;rcases hZ.1 d with rfl|d
       ·exact⟨(hS.1 y).1,s_⟩
       ·exact q _ _ _ i p d
     |_=>simp[gO]at h
   exact this _ _ _ _ m
  refine⟨?_,fun p d=>(D p d).1,K⟩;intro H w ad ai β c z e n _;obtain⟨j,r1⟩:=q7 fi.toList (fun x hx=>e x (g x (.inl hx)));obtain⟨k,G⟩:=q7 ca.toList (fun x hx=>e x (g x (.inr hx)));obtain⟨N,r,L,_⟩:=CO _ s z j r1 s_;simp only[bA]at r;obtain⟨I,q1,M,_⟩:=CO _ m r.rel (bH.mono r.cq (fun _ _=>rfl) r.step _ _ G k) G (by
   intro p d;obtain⟨_,fz,t,F⟩:=D p d;have C:=n p d;rw[F]at C;exact⟨fz,fz,t,F,C⟩)
  simp only[newAt,hX];refine⟨_,_,w,β,I,u c w,.inl rfl,r.trans q1,?_,by simp[aF]⟩;simp only[aB,aE];exact⟨_,_,bG.mono q1.cq (fun _ _=>rfl) _ _ L,M,rfl⟩
theorem FO{x:da}(d:o.op=.nilCheck x)(h:(∃b p,ρ x=.ptr b p)\/(∃b v e i p,ρ x=.cA b v e i p)\/∃t,ρ x=.p (.cM t)):bD P o ρ base {v:=ρ x}:=by
 refine bD.same fun H w ad ai β f l k ar=>?_;have c:=k x (by simp[d,hj]);refine⟨f x,?_,c⟩;have j:∃a,f x=.pointer (some a):=by
  rcases h with⟨b,p,hx⟩|⟨b,v,e,i,p,hx⟩|⟨t,hx⟩
  ·have c:=c.1;rw[hx]at c;simp only[aB,bY,b7]at c;obtain⟨_,_,_,_,h,_⟩:=c;exact⟨_,h⟩
  ·have c:=c.1;rw[hx]at c;simp only[aB,bY,b7]at c;obtain⟨_,_,_,_,h,_⟩:=c;exact⟨_,h⟩
  ·have c:=c.1;rw[hx]at c;simp only[aB,aE]at c;obtain⟨_,_,_,_,_,_,h⟩:=c;exact⟨_,h⟩
 obtain⟨a,g⟩:=j;simp[dl,d,g]
end
section
variable{P:dd}{w:dq}{ad ai:Nat->Prop}{β:Bd}{H:al}
variable{o:Oper}{ρ:da->AV}{base:Nat}
open Go.MapKept
def mH:PV->Prop
 | .st _ _=>False
 |_=>True
theorem HJ{T:db}{key:PV}(h:mH key)(k:PV):pA P T key k=kz key k:=by
 cases key<;>first
  |exact h.elim
  |rfl
theorem XW{T:db}{key:PV}(h:mH key)(a:List (PV×PV)):oO P T a key=gp P T a key:=by
 cases key<;>first
  |exact h.elim
  |rfl
theorem Cs{T:db}{key:PV}{b:dg}(h:fY P T key=true)(c:mH key)(a:aE P w ad key b):∃d,P.underlying T=some d/\IsKey d b:=by
 unfold fY at h
 split at h
 ·split at h
  ·rename_i e;simp at h;subst h;simp only[aE]at a;subst a;exact⟨_,e,by simp[IsKey]⟩
  ·simp at h
 ·simp only[aE]at a;obtain⟨bs,rfl,_⟩:=a;exact⟨_,Cm h,by simp[IsKey]⟩
 ·exact c.elim
 ·simp at h
theorem DH{T:db}{d:ew}(j:P.underlying T=some d){key g:PV}{i v':dg}{r:Bool}(h:fY P T key=true)(p:mH key)(c:kz key g=some r)(e:aE P w ad key i)(f:aE P w ad g v'):
 hd d i v'=some r/\(r=true->i=v'):=by
 unfold fY at h
 split at h
 ·split at h
  ·rename_i k;simp at h;subst h;rw[j]at k;cases k;cases g<;>simp only[kz]at c<;>try (simp at c;done)
   split at c
   ·rename_i hk;subst hk;simp at c;subst c;simp only[aE]at e f;subst e;subst f;simp[hd]
   ·simp at c
  ·simp at h
 ·rename_i hs;have:=Cm h;rw[j]at this;cases this;cases g<;>simp only[kz]at c<;>try (simp at c;done)
  simp at c;subst c;simp only[aE]at e f;obtain⟨a,rfl,e1⟩:=e;obtain⟨b,rfl,e2⟩:=f;subst e1;subst e2;have n:(j5 (fun x:UInt8=>x.toNat) a.data.toList=j5 (fun x:UInt8=>x.toNat) b.data.toList)↔a=b:=by
   constructor
   ·intro h;have:=FI h;apply ByteArray.ext;apply b2;exact this
   ·intro h;rw[h]
  by_cases hc:a=b
  ·subst hc;simp[hd,hh]
  ·have l:¬(j5 (fun x:UInt8=>x.toNat) a.data.toList=j5 (fun x:UInt8=>x.toNat) b.data.toList):=fun h=>hc (n.1 h);have m:(a==b)=false:=by
    cases o:(a==b)with
    |false=>rfl
    |true=>exact(hc ((hh a b).1 o)).elim
   simp[hd,l,m]
 ·exact p.elim
 ·simp at h
theorem G4{T:db}{d:ew}(o:P.underlying T=some d){key:PV}{g:dg}(hk:fY P T key=true)(m:mH key)(l:aE P w ad key g):∀(b:List (PV×PV))(a:List dx)(i:Nat)(r:Option PV),cT P w ad b a->gp P T b key=some r->
 (r=none/\gm d g a i=some none)\/∃v j e,r=some v/\gm d g a i=some (some (i+j,e.val))/\a[j]?=some e/\aE P w ad v e.val/\e.key=g/\
  (∀(x:PV)(k:dg),aE P w ad x k->cT P w ad (gI b key x) (a.modify j fun e=>{e with key:=g,val:=k}))
 |[],a,i,r,f,h=>by
  simp only[cT]at f;simp[gp]at h;subst f;subst h;exact .inl ⟨rfl,rfl⟩
 |(s,v')::b,a,i,r,f,h=>by
  simp only[cT]at f;obtain⟨e,rest,rfl,n,p,q⟩:=f;simp only[gp,HJ m]at h
  split at h
  ·rename_i c;simp at h;subst h;obtain⟨g1,g2⟩:=DH o hk m c l n;refine .inr ⟨v',0,e,rfl,by simp[gm,g1],rfl,p,(g2 rfl).symm,fun x k hx=>?_⟩;simp only[gI,c,if_true];simp only[cT];exact⟨_,rest,rfl,l,hx,q⟩
  ·rename_i c;obtain⟨g1,g2⟩:=DH o hk m c l n;rcases G4 o hk m l b rest (i+1) r q h with⟨rfl,f1⟩|⟨v,j,e',rfl,f1,f2,f3,f4,f5⟩
   ·exact .inl ⟨rfl,by simp[gm,g1,f1]⟩
   ·refine .inr ⟨v,j+1,e',rfl,by simp[gm,g1,f1];omega,by simpa using f2,f3,f4,fun x k hx=>?_⟩;simp only[gI,c];rw[if_neg s_];simp only[cT];exact⟨e,_,by simp[List.modify_succ_cons],n,p,f5 x k hx⟩
  ·simp at h
theorem Nc{X:Array dg}{v:db->PV->PV->Option Bool}(e:Bool)(n:Nat):
 ∀(fs:List ej)(l:List Nat)(b:List PV)(r:Bool)(d:List dg)(o:List (List dg)),ju P v (fs.map (·.type)) b b=some r->(∀f∈fs,f.name≠ "_" /\xN P f.type=true)->
 (∀(i:Nat)(f:ej),fs[i]?=some f->f.offset=d.length+(l.take i).sum)->bt P w ad l b o->
 X.toList=d++o.flatten->(forIn fs lk (fun f _=>if f.name≠ "_" then(do
  let x<-part f.type X f.offset
  gy e (n+1) f.type x
  pure (ForInStep.yield lk))else pure (ForInStep.yield lk):ej->PUnit->Sem (ForInStep PUnit))).run P w=.ok lk w
 |[],l,b,r,d,o,_,_,_,_,_=>by simp
 |f::fs,l,b,r,d,o,h,hn,s,hx,q=>by
  cases b with
  |nil=>simp[ju]at h
  |cons a b=>
   cases l with
   |nil=>simp[bt]at hx
   |cons m l=>
    simp only[hW,ju]at h
    split at h
    case isFalse=>simp at h
    rename_i hk
    split at h
    case h_2=>simp at h
    rename_i r1 E G y;obtain⟨c,cs,rfl,hc,z,D⟩:=Am hx;obtain⟨B,p⟩:=hn f s_;have C:f.offset=d.length:=by simpa using s 0 f s_
    obtain⟨x,t,H⟩:=u6 hk.1 hc (pre:=d) (post:=cs.flatten) (cs:=X) (by rw[q];simp);rw[<-C]at t;have u:(gy e (n+1) f.type x).run P w=.ok () w:=by
     unfold xN at p;unfold gy
     split at p
     ·rename_i k j;simp[c9 j]
     ·rename_i j;simp[c9 j]
     ·rename_i j;simp[c9 j]
     ·cases p
    have F:=Nc e n fs l b E (d++c) cs y (fun f hf=>hn f (by simp[hf])) (by
     intro i g A;have:=s (i+1) g (by simpa using A);rw[this,j6,kc,hU,z];omega) D (by rw[q];simp)
    rw[List.forIn_cons];simp only[B,ne_eq,not_false_eq_true,if_true,hG,t,u,hE,hH];exact F
theorem Xo{T:db}{cm:Array ej}{u:Nat}{fs:List PV}{g:dg}(b:P.underlying T=some (.struct cm))(j:cm.toList.all (fun f=>f.name != "_" &&xN P f.type)=true)(a:(gE P 9 T (.st u fs) (.st u fs)).isSome=true)(d:aE P w ad (.st u fs) g)(e:Bool):
 (gy e 10000 T g).run P w=.ok () w:=by
 obtain⟨r,a⟩:=kX.1 a;unfold gE at a;simp only[b]at a
 split at a
 case isFalse=>simp at a
 rename_i hc;obtain⟨hk,-,-,-⟩:=hc;simp only[aE]at d;obtain⟨l,c,k1,k2,rfl⟩:=d;obtain⟨o,p,s1,s2,q,h,s,k⟩:=zt (P:=P) (T:=T) (u:=u) (n:=cm.size) (by unfold fB;rw[hk,b]);rw[b]at s1;cases s1;rw[k1]at h;cases h;have key:=Nc (w:=w) (ad:=ad) (X:=c.flatten.toArray) e 9998 cm.toList l fs r [] c a (fun f hf=>by
  have:=h9.1 j f hf;simpa using this) (by
   intro i f hf;have hi:i<cm.size:=by
    have:=(hS.1 hf).1;simpa using this
   obtain⟨m,g1,g2,_⟩:=k i hi;rw[b3,g1]at hf;cases hf;simpa using g2) k2 s_
 unfold gy;simp only[hG,c9 b,hE];rw[<-Array.forIn_toList];rw[key];simp
theorem Gz{T:db}{u:Nat}{fs:List PV}{g:dg}(p:aE P w ad (.st u fs) g):∀(k:List (PV×PV))(f:List dx)(i:Nat)(r:Option PV),cT P w ad k f->gp P T k (.st u fs)=some r->
 (r=none/\(gx T g f i).run P w=.ok none w/\∀x n born,aE P w ad x n->cT P w ad (gI k (.st u fs) x) (f++[{key:=g,val:=n,born}]))\/∃(v:PV)(j:Nat)(e:dx),r=some v/\(gx T g f i).run P w=.ok (some (i+j,e.val)) w/\aE P w ad v e.val
 |[],f,i,r,m,h=>by
  simp only[cT]at m;simp[gp]at h;subst m;subst h;refine .inl ⟨rfl,by simp[gx],fun x n born hx=>?_⟩;simp only[gI,cT];exact⟨_,[],rfl,p,hx,rfl⟩
 |(y,v')::k,f,i,r,m,h=>by
  simp only[cT]at m;obtain⟨e,rest,rfl,s,t,z⟩:=m;simp only[gp]at h;have q:∀b,pA P T (.st u fs) y=some b->(hm T g e.key).run P w=.ok b w/\kz (.st u fs) y=some b:=by
   intro b l;simp only[pA]at l
   split at l
   ·rename_i a c A hc;cases a<;>cases c<;>simp at l<;>subst l<;>
    ·obtain⟨d,B,hq⟩:=CU T g e.key;rw[hq];exact⟨CZ 9 T _ _ _ A _ _ p s _ B,hc⟩
   ·simp at l
  split at h
  ·rename_i o;simp at h;subst h;obtain⟨g1,g2⟩:=q _ o;exact .inr ⟨v',0,e,rfl,by simp[gx,g1],t⟩
  ·rename_i o;obtain⟨g1,g2⟩:=q _ o;rcases Gz p k rest (i+1) r z h with⟨rfl,f1,f2⟩|⟨v,j,e',rfl,f1,f3⟩
   ·refine .inl ⟨rfl,by simp[gx,g1,f1],fun x n born hx=>?_⟩;simp only[gI,g2];rw[if_neg s_];simp only[cT];exact⟨e,_,rfl,s,t,f2 x n born hx⟩
   ·refine .inr ⟨v,j+1,e',rfl,?_,f3⟩;simp[gx,g1,f1];omega
  ·simp at h
theorem G5{T:db}{cm:Array ej}(c:P.underlying T=some (.struct cm)){b:dg}{a:List dx}{f:Option (Nat×dg)}(h:(gx T b a 0).run P w=.ok f w):(g7 T b a).run P w=.ok f w:=by
 unfold g7;simp only[hG,c9 c,hE];cases a with
 |nil=>
  simp only[gm];simpa[gx]using h
 |cons e es=>
  have:gm (.struct cm) b (e::es) 0=none:=by simp[gm,hd]
  rw[this];exact h
theorem F5{T:db}{key:PV}(h:fY P T key=true)(a:¬mH key):∃u fs cm,key= .st u fs/\P.underlying T=some (.struct cm)/\cm.toList.all (fun f=>f.name != "_" &&xN P f.type)=true/\(gE P 9 T (.st u fs) (.st u fs)).isSome=true:=by
 cases key<;>first
  |exact(a trivial).elim
  |skip
 rename_i u fs;simp only[fY]at h
 split at h
 ·rename_i cm b;rw[cx]at h;exact⟨u,fs,cm,rfl,b,h.1,h.2⟩
 ·cases h
theorem Qm{T:db}{key:PV}{g:dg}(hk:fY P T key=true)(f:aE P w ad key g){b:List (PV×PV)}{a:List dx}{r:Option PV}(l:cT P w ad b a)(h:gp P T b key=some r):
 (∀e,(gy e 10000 T g).run P w=.ok () w)/\
 ((r=none/\(g7 T g a).run P w=.ok none w)\/∃(v:PV)(j:Nat)(e:dx),r=some v/\(g7 T g a).run P w=.ok (some (j,e.val)) w/\aE P w ad v e.val):=by
 by_cases i:mH key
 ·obtain⟨d,c,o⟩:=Cs hk i f;refine⟨fun e=>run_checkKey c o _ 9999,?_⟩;rcases G4 c hk i f b a 0 r l h with⟨rfl,f1⟩|⟨v,j,e,rfl,f1,f2,f3,f4,_⟩
  ·exact .inl ⟨rfl,run_findKey c f1⟩
  ·exact .inr ⟨v,0+j,e,rfl,run_findKey c f1,f3⟩
 ·obtain⟨u,fs,cm,rfl,k,m,n⟩:=F5 hk i;refine⟨fun e=>Xo k m n f e,?_⟩;rcases Gz f b a 0 r l h with⟨rfl,f1,_⟩|⟨v,j,e,rfl,f1,f3⟩
  ·exact .inl ⟨rfl,G5 k f1⟩
  ·exact .inr ⟨v,0+j,e,rfl,G5 k f1,f3⟩
theorem M6{T:db}{key x:PV}{g i:dg}(d:aE P w ad key g)(hx:aE P w ad x i)(born:Nat):∀(a:List (PV×PV))(c:List dx),mH key->cT P w ad a c->gp P T a key=some none->cT P w ad (gI a key x) (c++[{key:=g,val:=i,born}])
 |[],c,_,b,_=>by
  simp only[cT]at b;subst b;simp only[gI,cT];exact⟨_,[],rfl,d,hx,rfl⟩
 |(n,v')::a,c,f,b,h=>by
  simp only[cT]at b;obtain⟨e,rest,rfl,j,k,l⟩:=b;simp only[gp,HJ f]at h
  split at h
  ·simp at h
  ·rename_i m;simp only[gI,m];rw[if_neg s_];simp only[cT];exact⟨e,_,rfl,j,k,M6 (T:=T) d hx born a rest f l h⟩
  ·simp at h
def yf(ok:Bool)(z:PV):Option PV->PV
 |some v=>if ok then .aC [v,.bool true]else v
 |none=>if ok then .aC [z,.bool false]else z
theorem Zi{T:db}{c E:db}{x i:da}{ok:Bool}{key z:PV}{r:Option PV}{k:List (PV×PV)}(B:o.op= .lookup T x i ok)(g:ld P T=some (c,E))(hz:cF P E=some z)(hk:fY P c key=true)(A:gp P c k key=some r)
 {ρc:da->dg}(y:aE P w ad key (ρc i))(hx:(ρc x=.map none/\k=[])\/∃b a d,ρc x=.map (some b)/\w.heap[b]?=some (.map a d)/\cT P w ad k a.toList):
 ∃cv,(dl ρc o).run P w=.ok (.value cv) w/\aE P w ad (yf ok z r) cv:=by
 have m:P.underlying T=some (.map c E):=by
  unfold ld at g
  split at g
  ·rename_i C;simp at g;rw[C,g.1,g.2]
  ·simp at g
 obtain⟨s,z1,z2⟩:=QH hz;obtain⟨a,q,n⟩:∃a:Array dx,((ρc x=.map none/\a=#[])\/∃b d,ρc x=.map (some b)/\w.heap[b]?=some (.map a d))/\cT P w ad k a.toList:=by
  rcases hx with⟨hx,rfl⟩|⟨b,a,d,hx,h,n⟩
  ·exact⟨#[],.inl ⟨hx,rfl⟩,by simp[cT]⟩
  ·exact⟨a,.inr ⟨b,d,hx,h⟩,n⟩
 obtain⟨l,t⟩:=Qm hk y n A
 have p:∀(f:Option (Nat×dg))(v:dg)(b:Bool),(g7 c (ρc i) a.toList).run P w= .ok f w->(f=none/\v=s/\b=false\/∃j,f=some (j,v)/\b=true)->
  (dl ρc o).run P w=.ok (.value (if ok then .tuple #[v,.bool b]else v)) w:=by
  intro f v b hf u;simp only[dl,B];refine fI ?_;rcases u with⟨rfl,rfl,rfl⟩|⟨j,rfl,rfl⟩
  ·rcases q with⟨hx,rfl⟩|⟨b,d,hx,h⟩
   ·have hf:(g7 c (ρc i) []).run P w=.ok none w:=hf;cases ok<;>simp[ha,c9 m,hx,l,hf,z1]
   ·cases ok<;>simp[ha,c9 m,hx,hg h,l,hf,z1]
  ·rcases q with⟨hx,rfl⟩|⟨b,d,hx,h⟩
   ·have hf:(g7 c (ρc i) []).run P w=.ok (some (j,v)) w:=hf;cases ok<;>simp[ha,c9 m,hx,l,hf]
   ·cases ok<;>simp[ha,c9 m,hx,hg h,l,hf]
 rcases t with⟨rfl,f1⟩|⟨v,j,e,rfl,f1,f3⟩
 ·refine⟨_,p none s false f1 (.inl ⟨rfl,rfl,rfl⟩),?_⟩;cases ok with
  |true=>simp only[yf,if_true,aE,bG];exact⟨_,⟨_,_,rfl,z2 w ad,_,_,rfl,rfl,rfl⟩,rfl⟩
  |false=>simpa[yf]using z2 w ad
 ·refine⟨_,p _ e.val true f1 (.inr ⟨_,rfl,rfl⟩),?_⟩;cases ok with
  |true=>simp only[yf,if_true,aE,bG];exact⟨_,⟨_,_,rfl,f3,_,_,rfl,rfl,rfl⟩,rfl⟩
  |false=>simpa[yf]using f3
theorem zH{T:db}{c E:db}{x g:da}{ok:Bool}{key z:PV}{r:Option PV}{es:List (PV×PV)}{ar:List (Nat×Obj)}(f:o.op= .lookup T x g ok)(m:ld P T=some (c,E))(hz:cF P E=some z)(hi:ρ g= .p key)(hk:fY P c key=true)(n:gp P c es key=some r)
 (hx:(ρ x=.p .gu/\es=[])\/ρ x=.p (.fu es)\/∃b fz,ρ x=.map b/\(b,.map fz es)∈ar):
 bD P o ρ base {v:=.p (yf ok z r),ar}:=by
 refine bD.same fun H w ad ai β t s i ar=>?_;have a:=(i x (by simp[f,hj])).1;have e:=(i g (by simp[f,hj])).1;rw[hi]at e;simp only[aB]at e;obtain⟨cv,c1,c2⟩:=Zi f m hz hk n (ρc:=t) (w:=w) (ad:=ad) e (by
  rcases hx with⟨hx,rfl⟩|hx|⟨b,fz,hx,q⟩
  ·rw[hx]at a;simp only[aB,aE]at a;exact .inl ⟨a,rfl⟩
  ·rw[hx]at a;simp only[aB,aE]at a;obtain⟨b,d,clock,_,j,k,l⟩:=a;exact .inr ⟨b,d,clock,l,j,k⟩
  ·rw[hx]at a;simp only[aB,bY,b7]at a;have h:=ar _ q;obtain⟨d,clock,k1,k2,_⟩:=s.dj b _ h;exact .inr ⟨_,d,clock,a.2.1 ⟨_,h,trivial⟩,k1,k2⟩)
 exact⟨cv,c1,by simpa only[aB]using c2,by simp[aF]⟩
theorem Zb{T:db}(e:o.op=.makeMap T none):bD P o ρ base {v:=.map base,aY:=[.map false []]}:=by
 intro H w ad ai β i b j _ d;have a:H[base]?=some .hole:=by simpa using d 0 s_
 have g:(dl i o).run P w=.ok (.value (.map (some w.heap.size))) {w with heap:=w.heap.push (.map #[] 0)}:=by
  simp only[dl,e];exact zo (by simp[Instr.makeMap])
 have f:=xt (cap:=0) b a (ob:=.map #[] 0) (o':=.map false [])
  ⟨#[],0,by simp[Bd.at],by simp[cT],by
   simp only[cS,Bd.at,if_true,c6,if_false];exact⟨fun h=>km _ (b.cq _ h),fun h=>km _ (b.fO _ h)⟩⟩ trivial
 refine⟨_,_,_,_,ad,g,.inl rfl,f,?_,?_⟩
 ·simp only[aB,bY,b7,nV];exact⟨rfl,fun _=>by simp[Bd.at],fun⟨L,c⟩=>by rw[hT (hS.1 a).1]at c;cases c⟩
 ·simp only[aF,nV];exact⟨_,hT (hS.1 a).1,trivial⟩
theorem Hy(f:cB P w ad β H ai){b:Nat}{o o':Obj}(a:H[b]?=some o)(i:o.live)(j:o'.live)(n:∀v,o.has v->o'.has v)(l:∀L,o≠ .loop L){ob:Go.Obj}
 (_hb:β.au b<w.heap.size)(e:¬ad (β.au b)/\¬ai (β.au b))(aO:cO β H β (H.set b o'))
 (p:gC P {w with heap:=w.heap.setIfInBounds (β.au b) ob} ad β (H.set b o') ai b o')(q:o'.refs (aL (H.set b o'))):
 ct P ai ad w β H ad {w with heap:=w.heap.setIfInBounds (β.au b) ob} β (H.set b o'):=by
 refine ct.set f (hS.1 a).1 (fun _ _=>⟨rfl,rfl⟩) (fun _ x=>x) (fun _ x=>.inl x) (fun k hk=>by simpa using f.cq k hk) s_
  (fun k hk _=>?_) (fun _=>.inr ⟨rfl,⟨o,a,i⟩,.inr e.1,e.2⟩) aO p q (fun r v c g=>by rw[a]at c;cases c;exact n v g) (fun L d=>by rw[a]at d;cases d;exact(l L rfl).elim)
 have m:k≠β.au b:=hk.resolve_right (fun h=>h j);simp[kP m]
theorem ME{T t E:db}{m k x:da}{b:Nat}{key v:PV}{a:List (PV×PV)}{r:Option PV}(g:o.op= .mapUpdate T m k x\/o.op= .insert T m k x)(z:ld P T=some (t,E))(aa:ρ m= .map b)(hk:ρ k= .p key)(hx:ρ x= .p v)
 (hf:fY P t key=true)(f:oO P t a key=some r):bD P o ρ base {v:=.p (.aC []),ar:=[(b,.map false a)],aM:=[(b,.map false (gI a key v))]}:=by
 have M:P.underlying T=some (.map t E):=by
  unfold ld at z
  split at z
  ·rename_i N;simp at z;rw[N,z.1,z.2]
  ·simp at z
 intro H w ad ai β c S O ar _;have G:H[b]?=some (.map false a):=by simpa using ar
 have L:m∈o.op.operands/\k∈o.op.operands/\x∈o.op.operands:=by
  rcases g with g|g<;>simp[g,hj]
 have l:=(O m L.1).1;have q:=(O k L.2.1).1;have B:=(O x L.2.2).1;rw[aa]at l;rw[hk]at q;rw[hx]at B;simp only[aB,bY,b7]at l q B;have l:=l.2.1 ⟨_,G,trivial⟩;obtain⟨i,clock,k1,k2,k3⟩:=S.dj b _ G;have R:¬ad (β.au b)/\¬ai (β.au b):=by
  unfold cS at k3;rw[if_neg s_]at k3;exact k3
 have F:gp P t a key=some r:=by
  by_cases s:mH key
  ·rw[<-XW s];exact f
  ·obtain⟨u,fs,cm,rfl,_⟩:=F5 hf s;simp only[oO]at f
   split at f
   ·rename_i hq;rw[hq];exact f
   ·cases f
 have J:=(Qm hf q k2 F).1 false;have Q:β.au b<w.heap.size:=(b0.1 k1).1;have aO:cO β H β (H.set b (.map false (gI a key v))):=sL G (.inr (.inr (.inl ⟨_,_,_,_,rfl,rfl⟩)))
 have I:∀(y:Array dx)(A:Nat),(g8 T (c m) (c k) (c x)).run P w= .ok () {w with heap:=w.heap.setIfInBounds (β.au b) (.map y A)}->cT P w ad (gI a key v) y.toList->
  ∃n cv w' aN aG,(dl c o).run P w=.ok n w'/\(n=.value cv\/n=.skip/\cv=undef)/\
  ct P ai ad w β H aG w' aN (bA H ([(b,.map false (gI a key v))]++newAt base []))/\aB P w' aG aN (bA H ([(b,.map false (gI a key v))]++newAt base [])) (.p (.aC [])) cv/\
  aF (aL (bA H ([(b,.map false (gI a key v))]++newAt base []))) (.p (.aC [])):=by
  intro y A ae ab;have W:(dl c o).run P w=.ok .skip {w with heap:=w.heap.setIfInBounds (β.au b) (.map y A)}:=by
   rcases g with g|g<;>simp[dl,g,ae]
  have af:∀D,ad D->({w with heap:=w.heap.setIfInBounds (β.au b) (.map y A)}:dq).heap[D]?=w.heap[D]?:=by
   intro D Z;have:β.au b≠D:=fun V=>R.1 (V▸Z);simp[this]
  refine⟨_,_,_,β,ad,W,.inr ⟨rfl,rfl⟩,?_,by simp[aB,aE,bG,undef],by simp[aF]⟩;simp only[newAt,hX,bA];exact Hy (o':=.map false (gI a key v)) S G trivial trivial (fun _ h=>h) (fun _ h=>by cases h) Q R aO ⟨y,A,by simp[Q],cT.mono (fun _ x=>x) af _ _ ab,k3⟩ trivial
 by_cases s:mH key
 case neg=>
  obtain⟨u,fs,cm,rfl,N,_,_⟩:=F5 hf s;have ac:r=none:=by
   simp only[oO]at f
   split at f
   ·simpa using f.symm
   ·cases f
  subst ac;rcases Gz q a i.toList 0 none k2 F with⟨_,f1,f2⟩|⟨v',j,e,U,_⟩
  ·have C:=G5 N f1;refine I (i.push {key:=c k,val:=c x,born:=clock}) (clock+1) ?_ ?_
   ·rw[l];simp only[g8,hG,c9 M,hE,hg k1,J,C,run_setObj_map _ k1]
   ·rw[cb];exact f2 v (c x) clock B
  ·cases U
 obtain⟨d,K,X⟩:=Cs hf s q;rcases G4 K hf s q a i.toList 0 r k2 F with⟨rfl,f1⟩|⟨v',j,e,rfl,f1,f2,f3,f4,f5⟩
 ·have C:=run_findKey (w:=w) K f1;refine I (i.push {key:=c k,val:=c x,born:=clock}) (clock+1) ?_ ?_
  ·rw[l];simp only[g8,hG,c9 M,hE,hg k1,J,C,run_setObj_map _ k1]
  ·rw[cb];exact M6 (T:=t) q B clock a i.toList s k2 F
 ·have C:=run_findKey (w:=w) K f1;have Y:i[j]?=some e:=by simpa using f2
  refine I (i.modify j fun e=>{e with key:=c k,val:=c x}) clock ?_ ?_
  ·rw[l];simp only[g8,hG,c9 M,hE,hg k1,J,C];simp only[kv,Y,lc,lb,f4,run_keyThatStays X,hE,run_setObj_map _ k1]
  ·rw[Array.toList_modify];exact f5 v (c x) B
theorem BH{v:PV}:nq v=true->mH v:=by
 cases v<;>simp[nq,mH]
theorem Wq{b:Nat}{o o':Obj}(e:H[b]?=some o)(i:o.yX)(d:o'.yX):cO β H β (H.set b o'):=by
 have g:b<H.length:=(hS.1 e).1;have a:∀x,x≠b->(H.set b o')[x]?=H[x]?:=fun x hx=>h4 (kP hx);have c:(H.set b o')[b]?=some o':=hT g;refine⟨?_,?_,?_,?_,?_⟩
 ·rintro x _ ⟨fz,t,h⟩;refine⟨?_,rfl⟩
  by_cases hx:x=b
  ·subst hx;rw[c]at h;cases h;exact d.elim
  ·rw[a x hx]at h;exact⟨fz,t,h⟩
 ·rintro x _ ⟨fz,t,h⟩;refine⟨?_,rfl⟩
  by_cases hx:x=b
  ·subst hx;rw[c]at h;cases h;exact d.elim
  ·rw[a x hx]at h;exact⟨fz,t,h⟩
 ·rintro x _ ⟨l,h,j⟩;refine⟨?_,rfl⟩
  by_cases hx:x=b
  ·subst hx;exact⟨o,e,i⟩
  ·rw[a x hx]at h;exact⟨l,h,j⟩
 ·intro x az ak k f _ h
  by_cases hx:x=b
  ·subst hx;unfold gn at h;rw[c]at h;cases h;exact d.elim
  ·unfold gn at h⊢;rw[a x hx]at h;exact⟨k,f,h,kk _,Iff.rfl,fun _=>⟨rfl,rfl⟩⟩
 ·rintro x _ ⟨L,h⟩;refine⟨?_,rfl⟩
  by_cases hx:x=b
  ·subst hx;rw[c]at h;cases h;exact d.elim
  ·rw[a x hx]at h;exact⟨L,h⟩
theorem Ks:∀{b:List (PV×PV)}{a:List dx},cT P w ad b a->bG P w ad (b.map (·.1)) (a.map (·.key))/\bH P w ad β H (b.map fun e=>.p e.2) (a.map (·.val))
 |[],a,h=>by
  simp only[cT]at h;subst h;simp[bG,bH]
 |(k,v)::r,a,h=>by
  simp only[cT]at h;obtain⟨e,rest,rfl,c,d,f⟩:=h;obtain⟨i1,i2⟩:=Ks f;simp only[hW,bG,bH];exact⟨⟨_,_,rfl,c,i1⟩,⟨_,_,rfl,by simpa only[aB]using d,i2⟩⟩
theorem WC{b:Nat}{d:Obj}{ks:List PV}{vs:List AV}(h:cB P w ad β H ai)(g:H[b]?=some d)(a:sf d=some (ks,vs)):
 d.yX/\(∃c f,w.heap[β.au b]?=some (.map c f)/\bG P w ad ks (c.toList.map (·.key))/\bH P w ad β H vs (c.toList.map (·.val))/\cS ad β ai false b)/\ba (aL H) vs:=by
 cases d<;>simp only[sf]at a<;>try (cases a;done)
 case map fz es=>
  cases fz
  case true=>simp at a
  simp only[le,ll]at a;obtain⟨rfl,rfl⟩:=a;obtain⟨c,f,k1,k2,k3⟩:=h.dj b _ g;obtain⟨i1,i2⟩:=Ks (β:=β) (H:=H) k2;exact⟨trivial,⟨c,f,k1,i1,i2,k3⟩,df.2 fun v i=>by obtain⟨e,_,rfl⟩:=kf.1 i;trivial⟩
 case dF j k=>
  simp only[le,ll]at a;obtain⟨rfl,rfl⟩:=a;exact⟨trivial,h.dj b _ g,h.refs b _ g⟩
theorem E9{T:db}{d:ew}(n:P.underlying T=some d){key:PV}{o:dg}(hk:fY P T key=true)(g:mH key)(m:aE P w ad key o):∀(ks:List PV)(vs:List AV)(c:List dx)(i:Nat)(r:Option AV),bG P w ad ks (c.map (·.key))->bH P w ad β H vs (c.map (·.val))->lB P T ks vs key=some r->
 (r=none/\gm d o c i=some none)\/∃(v:AV)(j:Nat)(e:dx),r=some v/\gm d o c i=some (some (i+j,e.val))/\aB P w ad β H v e.val/\v∈vs
 |[],vs,c,i,r,f,k,h=>by
  cases c with
  |nil=>
   cases vs with
   |nil=>simp[lB]at h;subst h;exact .inl ⟨rfl,rfl⟩
   |cons a b=>simp[lB]at h
  |cons a b=>simp[bG]at f
 |u::ks,vs,c,i,r,f,k,h=>by
  cases c with
  |nil=>simp[bG]at f
  |cons e rest=>
   cases vs with
   |nil=>simp[bH]at k
   |cons v' vs=>
    simp only[hW,bG,bH,List.cons.injEq]at f k;obtain⟨_,_,⟨rfl,rfl⟩,p,q⟩:=f;obtain⟨_,_,⟨rfl,rfl⟩,s,t⟩:=k;simp only[lB,HJ g]at h
    split at h
    ·rename_i l;simp at h;subst h;obtain⟨g1,g2⟩:=DH n hk g l m p;exact .inr ⟨v',0,e,rfl,by simp[gm,g1],s,List.mem_cons_self⟩
    ·rename_i l;obtain⟨g1,g2⟩:=DH n hk g l m p;rcases E9 n hk g m ks vs rest (i+1) r q t h with⟨rfl,f1⟩|⟨v,j,e',rfl,f1,f3,f4⟩
     ·exact .inl ⟨rfl,by simp[gm,g1,f1]⟩
     ·exact .inr ⟨v,j+1,e',rfl,by simp[gm,g1,f1];omega,f3,h3 _ f4⟩
    ·simp at h
def qI(ok:Bool)(z:PV):Option AV->AV
 |some v=>if ok then .aC [v,.p (.bool true)]else v
 |none=>.p (if ok then .aC [z,.bool false]else z)
theorem Km{T:db}{f E:db}{x k:da}{ok:Bool}{key z:PV}{r:Option AV}{b:Nat}{ks:List PV}{vs:List AV}(i:o.op= .lookup T x k ok)(c:ld P T=some (f,E))(hz:cF P E=some z)(hi:ρ k= .p key)(hk:fY P f key=true)(n:nq key=true)(B:lB P f ks vs key=some r)
 (hx:ρ x=.map b):bD P o ρ base {v:=qI ok z r,ar:=[(b,.dF ks vs)]}:=by
 refine bD.same fun H w ad ai β D s t ar=>?_;have a:=(t x (by simp[i,hj])).1;have g:=(t k (by simp[i,hj])).1;rw[hi]at g;simp only[aB]at g;rw[hx]at a;simp only[aB,bY,b7]at a;have l:H[b]?=some (.dF ks vs):=by simpa using ar
 obtain⟨y,clock,k1,k2,k3,_⟩:=s.dj b _ l;have hrefs:ba (aL H) vs:=s.refs b _ l;have a:=a.2.1 ⟨_,l,trivial⟩;have q:P.underlying T=some (.map f E):=by
  unfold ld at c
  split at c
  ·rename_i C;simp at c;rw[C,c.1,c.2]
  ·simp at c
 obtain⟨u,z1,z2⟩:=QH hz;obtain⟨d,h,A⟩:=Cs hk (BH n) g;have m:∀e,(gy e 10000 f (D k)).run P w=.ok () w:=fun e=>run_checkKey h A _ 9999;rcases E9 h hk (BH n) g ks vs y.toList 0 r k2 k3 B with⟨rfl,f1⟩|⟨v,j,e,rfl,f1,f3,f4⟩
 ·have hf:=run_findKey (w:=w) h f1;refine⟨if ok then .tuple #[u,.bool false]else u,?_,?_,by cases ok<;>simp[qI,aF]⟩
  ·simp only[dl,i];refine fI ?_;cases ok<;>simp[ha,c9 q,a,hg k1,m,hf,z1]
  ·cases ok with
   |true=>simp only[qI,if_true,aB,aE,bG];exact⟨_,⟨_,_,rfl,z2 w ad,_,_,rfl,rfl,rfl⟩,rfl⟩
   |false=>simpa[qI,aB]using z2 w ad
 ·have hf:=run_findKey (w:=w) h f1;refine⟨if ok then .tuple #[e.val,.bool true]else e.val,?_,?_,?_⟩
  ·simp only[dl,i];refine fI ?_;cases ok<;>simp[ha,c9 q,a,hg k1,m,hf]
  ·cases ok with
   |true=>simp only[qI,if_true,aB,bH,aE];exact⟨_,⟨_,_,rfl,f3,_,_,rfl,rfl,rfl⟩,rfl⟩
   |false=>simpa[qI]using f3
  ·have:=df.1 hrefs v f4;cases ok<;>simp[qI,aF,ba,this]
theorem Kr{w:dq}{ad:Nat->Prop}{k:PV}{x:dg}:∀{a:List PV}{l:List dg},bG P w ad a l->aE P w ad k x->bG P w ad (a++[k]) (l++[x])
 |[],l,h,hx=>by simp only[bG]at h;subst h;simp only[i6,bG];exact⟨_,_,rfl,hx,rfl⟩
 |v::a,l,h,hx=>by
  simp only[bG]at h;obtain⟨y,d,rfl,b,c⟩:=h;simp only[List.cons_append,bG];exact⟨_,_,rfl,b,Kr c hx⟩
theorem BF{T i E:db}{m k x:da}{b:Nat}{key:PV}{u:Obj}{ks:List PV}{vs:List AV}(c:o.op= .mapUpdate T m k x\/o.op= .insert T m k x)(g:ld P T=some (i,E))(aa:ρ m= .map b)(hk:ρ k= .p key)
 (hf:fY P i key=true)(O:sf u=some (ks,vs))(F:nq key=true)(Z:lB P i ks vs key=some none):bD P o ρ base {v:=.p (.aC []),ar:=[(b,u)],aM:=[(b,.dF (ks++[key]) (vs++[ρ x]))]}:=by
 have ab:P.underlying T=some (.map i E):=by
  unfold ld at g
  split at g
  ·rename_i ae;simp at g;rw[ae,g.1,g.2]
  ·simp at g
 intro H w ad ai β a G B ar _;have s:H[b]?=some u:=by simpa using ar
 have A:m∈o.op.operands/\k∈o.op.operands/\x∈o.op.operands:=by
  rcases c with c|c<;>simp[c,hj]
 have n:=(B m A.1).1;have q:=(B k A.2.1).1;obtain⟨M,N⟩:=B x A.2.2;rw[aa]at n;rw[hk]at q;simp only[aB,bY,b7]at n q;obtain⟨r,⟨l,clock,k1,k2,k3,k4⟩,af⟩:=WC G s O;have n:=n.2.1 ⟨_,s,r⟩;have D:¬ad (β.au b)/\¬ai (β.au b):=by
  unfold cS at k4;rw[if_neg s_]at k4;exact k4
 obtain⟨d,z,W⟩:=Cs hf (BH F) q;have R:(gy false 10000 i (a k)).run P w=.ok () w:=run_checkKey z W _ 9999;have C:β.au b<w.heap.size:=(b0.1 k1).1;have Q:b<H.length:=(hS.1 s).1;have aO:cO β H β (H.set b (.dF (ks++[key]) (vs++[ρ x]))):=Wq s r trivial;rcases E9 z hf (BH F) q ks vs l.toList 0 none k2 k3 Z with⟨_,f1⟩|⟨v',j,e,L,_⟩
 case inr=>cases L
 have V:=run_findKey (w:=w) z f1;have ac:(g8 T (a m) (a k) (a x)).run P w=.ok () {w with heap:=w.heap.setIfInBounds (β.au b) (.map (l.push {key:=a k,val:=a x,born:=clock}) (clock+1))}:=by
  rw[n];simp only[g8,hG,c9 ab,hE,hg k1,R,V,run_setObj_map _ k1]
 have U:(dl a o).run P w=.ok .skip {w with heap:=w.heap.setIfInBounds (β.au b) (.map (l.push {key:=a k,val:=a x,born:=clock}) (clock+1))}:=by
  rcases c with c|c<;>simp[dl,c,ac]
 have I:∀t,ad t->({w with heap:=w.heap.setIfInBounds (β.au b) (.map (l.push {key:=a k,val:=a x,born:=clock}) (clock+1))}:dq).heap[t]?=w.heap[t]?:=by
  intro t Y;have:β.au b≠t:=fun S=>D.1 (S▸Y);simp[this]
 have X:∀y,aL H y->aL (H.set b (.dF (ks++[key]) (vs++[ρ x]))) y:=by
  rintro⟨y,v⟩ ⟨ah,ag,f⟩
  by_cases K:b=y
  ·subst K;exact⟨.dF (ks++[key]) (vs++[ρ x]),by simp only;rw[hT Q],trivial⟩
  ·exact⟨ah,by simp only;rw[h4 K];exact ag,f⟩
 have J:ba (aL H) (vs++[ρ x]):=df.2 fun v f=>by
  rcases i7.1 f with f|f
  ·exact df.1 af v f
  ·rw[iz.1 f];exact N
 refine⟨_,_,_,β,ad,U,.inr ⟨rfl,rfl⟩,?_,by simp[aB,aE,bG,undef],by simp[aF]⟩;simp only[newAt,hX,bA];refine Hy (o':=.dF (ks++[key]) (vs++[ρ x])) G s (by cases u<;>first|trivial|exact r.elim) trivial (fun _ _=>trivial) (fun _ h=>by rw[h]at r;exact r.elim) C D aO ⟨l.push {key:=a k,val:=a x,born:=clock},clock+1,by simp[C],?_,?_,k4⟩ (ba.mono X _ J)
 ·rw[cb,h6];exact bG.mono (fun _ x=>x) I _ _ (Kr k2 q)
 ·rw[cb,h6];refine bH.mono (fun _ x=>x) I aO _ _ J (sB k3 ?_);simp only[hW,h8,bH];exact⟨_,_,rfl,M,rfl⟩
theorem BE{c:db}{b:Nat}{key:PV}{x:AV}{a:Obj}{K:aZ->Prop}(h:pO P c b key x a K):∃ks vs,sf a=some (ks,vs)/\nq key=true/\lB P c ks vs key=some none/\K {v:=.p (.aC []),ar:=[(b,a)],aM:=[(b,.dF (ks++[key]) (vs++[x]))]}:=by
 unfold pO at h
 split at h
 ·rename_i ks vs d;exact⟨ks,vs,d,h⟩
 ·exact h.elim
end
section
variable{P:dd}{w:dq}{ad ai:Nat->Prop}{β:Bd}{H:al}
variable{o:Oper}{ρ:da->AV}{base:Nat}
theorem Yf(bs:ByteArray):iH (kl bs)=bs:=by
 unfold iH kl;apply ByteArray.ext;apply b2;simp only[i5];have:(ls∘fun x:UInt8=>x.toNat)=id:=by funext x;simp
 rw[this];simp
theorem avB{T:db}{x:da}{s:List Nat}(d:o.op=.range T x)(hx:ρ x=.p (.str s))(e:jM P T=true):bD P o ρ base {v:=.ptr base [],aY:=[.dZ s 0]}:=by
 intro H w ad ai β k b j _ f;have c:H[base]?=some .hole:=by simpa using f 0 s_
 have a:=(j x (by simp[d,hj])).1;rw[hx]at a;simp only[aB,aE]at a;obtain⟨bs,e1,e2⟩:=a;have i:(dl k o).run P w=.ok (.value (.pointer (some ⟨w.heap.size,0,none⟩))) {w with heap:=w.heap.push (.stringIter bs 0)}:=by
  simp only[dl,d,e1];exact zo (by simp[Instr.range,c9 (Cm e)])
 have g:=xt (cap:=0) b c (ob:=.stringIter bs 0) (o':=.dZ s 0)
  ⟨bs,by simp[Bd.at],e2,by
   simp only[cS,Bd.at,if_true,c6,if_false];exact⟨fun h=>km _ (b.cq _ h),fun h=>km _ (b.fO _ h)⟩⟩ trivial
 refine⟨_,_,_,_,ad,i,.inl rfl,g,?_,?_⟩
 ·simp only[aB,bY,b7,nV];exact⟨rfl,_,_,0,rfl,rfl,fun _=>by simp[Bd.at]⟩
 ·simp only[aF,nV];exact⟨_,hT (hS.1 c).1,trivial⟩
theorem aPB{it:da}{b:Nat}{s:List Nat}{pos:Nat}(g:o.op= .next it true)(hx:ρ it= .ptr b []):
 (pos<s.length->bD P o ρ base {v:=.p (.aC [.bool true,.int .i64 pos,.int .i32 (hN (iH s) pos).1]),ar:=[(b,.dZ s pos)],aM:=[(b,.dZ s (pos+(hN (iH s) pos).2))]})/\
 (¬pos<s.length->bD P o ρ base {v:=.p (.aC [.bool false]),ar:=[(b,.dZ s pos)]}):=by
 have key:∀{H:al}{w:dq}{ad ai:Nat->Prop}{β:Bd}{e:da->dg},cB P w ad β H ai->(∀x∈o.op.operands,aB P w ad β H (ρ x) (e x)/\aF (aL H) (ρ x))->H[b]?=some (.dZ s pos)->
  e it=.pointer (some ⟨β.au b,0,none⟩)/\∃bs:ByteArray,w.heap[β.au b]?=some (.stringIter bs pos)/\s=kl bs/\(¬ad (β.au b)/\¬ai (β.au b)):=by
  intro H w ad ai β e d f a;have c:=(f it (by simp[g,hj])).1;rw[hx]at c;simp only[aB,bY,b7]at c;obtain⟨_,au,off,t,m,k,n⟩:=c;simp[iv]at k;subst k;obtain⟨rfl,rfl⟩:=n (.inr ⟨_,_,a⟩);obtain⟨bs,k1,k2,k3⟩:=d.dj b _ a;unfold cS at k3;rw[if_neg s_]at k3;exact⟨m,bs,k1,k2,k3⟩
 constructor
 ·intro i H w ad ai β e d f ar _;have a:H[b]?=some (.dZ s pos):=by simpa using ar
  obtain⟨c,bs,k1,rfl,k3⟩:=key d f a;have j:pos<bs.size:=by simpa[kl]using i
  have l:β.au b<w.heap.size:=(b0.1 k1).1;rw[Yf];have r:(dl e o).run P w=.ok (.value (.tuple #[.bool true,goInt pos,.int .i32 (hN bs pos).1])) {w with heap:=w.heap.setIfInBounds (β.au b) (.stringIter bs (pos+(hN bs pos).2))}:=by
   simp only[dl,g,c];refine zo ?_;simp[he,getObj,setObj,hJ,k1,hF,j]
  have aO:cO β H β (H.set b (.dZ (kl bs) (pos+(hN bs pos).2))):=sL a (.inr (.inr (.inr ⟨_,_,_,rfl,rfl⟩)));have q:=Hy (o':=.dZ (kl bs) (pos+(hN bs pos).2)) (ob:=.stringIter bs (pos+(hN bs pos).2)) d a trivial trivial (fun _ h=>h) (fun _ h=>by cases h) l k3 aO
   ⟨bs,by simp[l],rfl,by unfold cS;rw[if_neg s_];exact k3⟩ trivial
  refine⟨_,_,_,β,ad,r,.inl rfl,?_,?_,by simp[aF]⟩
  ·simpa only[newAt,hX,bA]using q
  ·simp only[aB,aE,bG];exact⟨_,⟨_,_,rfl,rfl,_,_,rfl,rfl,_,_,rfl,rfl,rfl⟩,rfl⟩
 ·intro i;refine bD.same fun H w ad ai β e d f ar=>?_;have a:H[b]?=some (.dZ s pos):=by simpa using ar
  obtain⟨c,bs,k1,rfl,k3⟩:=key d f a;have j:¬pos<bs.size:=by simpa[kl]using i
  refine⟨.tuple #[.bool false],?_,by simp only[aB,aE,bG];exact⟨_,⟨_,_,rfl,rfl,rfl⟩,rfl⟩,by simp[aF]⟩;simp only[dl,g,c];refine fI ?_;simp[he,getObj,hJ,k1,hF,j]
theorem avC{T u:db}{x:da}{f:Nat}{fs:Array ej}{t g:PV}{F:db}(h:o.op= .field T x f)(hk:kindOf P T= .agg u)(b:P.underlying T=some (.struct fs))(hx:ρ x= .p t)(hs:aK t= .agg u)(e:(cm t)[f]?=some g)(m:(lD P u)[f]?=some F)(q:kindOf P F=aK g):
 bD P o ρ base {v:=.p g}:=by
 refine bD.same fun H w ad ai β I C s _=>?_;have a:=(s x (by simp[h,hj])).1;rw[hx]at a;simp only[aB]at a;cases t<;>simp[aK]at hs;rename_i u' k;subst hs;simp only[cm]at e;simp only[aE]at a;obtain⟨l,d,k1,k2,k3⟩:=a;obtain⟨B,D,s1,s2,E,j,G,z⟩:=zt (P:=P) (T:=T) (u:=u') (n:=fs.size) (by unfold fB;rw[hk,b]);rw[b]at s1;cases s1;rw[k1]at j;cases j;have r:bX P w ad ⟨id,id⟩ [] l (k.map .p) d:=qX.2 k2;obtain⟨pre,c,post,e1,e2,e3,e4,e5,_⟩:=xK (f:=.p g) (i:=f) r (by simp[e]);simp only[bC]at e5;obtain⟨A,g1,g2,g3,g4,g5⟩:=z f o_;rw[m]at g5;cases g5;obtain⟨y,y1,y2⟩:=u6 q e5 (pre:=pre) (post:=post) (cs:=d.flatten.toArray) (by simpa using e1);refine⟨y,?_,by simpa only[aB]using y2,by simp[aF]⟩;simp only[dl,h,k3];refine fI ?_;rw[e2,<-g2]at y1;simp only[Instr.field,hG,c9 b,hE,g1];simp[asAgg,y1]
theorem YS{T u:db}{n:Nat}{x k:da}{N:ec}{i:Int}{a:List PV}{g:PV}{F:db}(j:o.op= .index T x k)(A:jr P T=some (u,n))(hx:ρ x= .p (.st u a))(hi:ρ k= .p (.int N i))
 (z:0<=i)(hn:i.toNat<n)(h:(lD P u)[i.toNat]?=some F)(E:a[i.toNat]?=some g)(G:kindOf P F=aK g):bD P o ρ base {v:=.p g}:=by
 refine bD.same fun H w ad ai β Q O t _=>?_;have b:=(t x (by simp[j,hj])).1;have d:=(t k (by simp[j,hj])).1;rw[hx]at b;rw[hi]at d;simp only[aB,aE]at b d;obtain⟨l,m,k1,k2,k3⟩:=b;obtain⟨e,s,hk,r,J⟩:=xE A;rw[k1]at r;cases r;have B:F=e:=by
  obtain⟨D,_,_⟩:=F4 hk;have C:(P.info? u).map (fun i:ed=>i.desc)=some (.array n e):=by rw[D,<-FL,s]
  unfold lD at h;rw[C]at h;have q:(hV n e)[i.toNat]?=some F:=h;rw[List.getElem?_replicate,if_pos hn]at q;exact(li q).symm
 subst B;have K:bX P w ad ⟨id,id⟩ [] (hV n (P.cellsOf F)) (a.map .p) m:=qX.2 k2;obtain⟨pre,c,post,e1,e2,e3,e4,e5,_⟩:=xK (f:=.p g) (i:=i.toNat) K (by simp[E]);simp only[bC]at e5;obtain⟨y,y1,y2⟩:=u6 G e5 (pre:=pre) (post:=post) (cs:=m.flatten.toArray) (by simpa using e1);have L:((hV n (P.cellsOf F)).take i.toNat).sum=i.toNat*P.cellsOf F:=by rw[List.take_replicate,Nat.min_eq_left o_,List.sum_replicate_nat]
 have M:(sizeOf F).run P w=.ok (P.cellsOf F) w:=by
  cases hi:P.info? F with
  |none=>simp[Program.cellsOf,hi]at J
  |some i=>simp[sizeOf,typeInfo,hi,Program.cellsOf]
 refine⟨y,?_,by simpa only[aB]using y2,by simp[aF]⟩;simp only[dl,j,k3,d];refine fI ?_;have I:i<(n:Int):=o_
 rw[e2,L]at y1;simp only[Instr.index,asIntOf,hG,hH,c9 s,hE];simp[z,I,M,y1]
theorem MN{k:ec}{f:Bool}{ρc:da->dg}:∀(l:List da)(a n:Int),oh k f (l.map ρ) a=some n->(∀x∈l,aB P w ad β H (ρ x) (ρc x))->
 ((l.map ρc).foldlM (if f then fw else fv) (.int k a)).run P w=.ok (.int k n) w
 |[],a,n,h,_=>by simp[oh]at h;subst h;simp
 |x::l,a,n,h,g=>by
  simp only[hW]at h;unfold oh at h
  split at h
  ·rename_i e;cases e
  ·rename_i j b r a' e;simp at e;obtain⟨e1,rfl⟩:=e
   split at h
   case isFalse=>simp at h
   rename_i hk;subst hk;have d:=g x s_;rw[e1]at d;simp only[aB,aE]at d;have c:=MN l _ n h (fun y i=>g y (by simp[i]));simp only[hW,List.foldlM_cons,hG,d];cases f with
   |true=>simp only[if_true,fw,hH,hE]at c⊢;exact c
   |false=>simp only[c6,if_false,fv,hH,hE]at c⊢;exact c
  ·simp at h
theorem Oj{c:Call}{isMax:Bool}{k:ec}{a n:Int}{r:List AV}(m:o.op= .call c)(hc:c.callee= .builtin (if isMax then .max else .min))(b:c.args.toList.map ρ= .p (.int k a)::r)(h:oh k isMax r a=some n):
 bD P o ρ base {v:=.p (.int k n)}:=by
 obtain⟨x,l,i⟩:∃x l,c.args.toList=x::l:=by
  cases s:c.args.toList with
  |nil=>rw[s]at b;simp at b
  |cons x l=>exact⟨x,l,rfl⟩
 rw[i]at b;simp at b;obtain⟨hx,rfl⟩:=b;have g:c.args=(x::l).toArray:=by apply b2;simpa using i
 have j:∀y∈x::l,y∈o.op.operands:=by
  intro y f;rw[m];simp only[hj,gj,hc,g];simpa using f
 refine bD.same fun H w ad ai β t u q _=>⟨.int k n,?_,by simp[aB,aE],by simp[aF]⟩
 have d:=(q x (j x s_)).1;rw[hx]at d;simp only[aB,aE]at d;have e:=MN (ρc:=t) l a n h (fun y f=>(q y (j y (by simp[f]))).1);simp only[dl,m,resolve,hc,g];cases isMax with
 |true=>
  simp only[if_true]at e⊢;simp[invoke,builtin,ge,d,e]
 |false=>
  simp only[c6,if_false]at e⊢;simp[invoke,builtin,gc,d,e]
theorem aPx{c:Call}{d x:da}{sz b az off len:Nat}{k:AK}{f g:List AV}{H0:al}(U:o.op= .call c)(hc:c.callee= .builtin .copy)(Q:c.args.toList=[d,x])(aq:c.argTypes.size=2)(t:c7 P (c.argTypes.getD 0 0)=some sz)
 (ab:ρ d=.sl b az sz off len)(hx:jb H0 (ρ x)=some g)(ap:fZ P sz g)(hk:k≠.frozen)(G:off+len<=f.length)(C:¬dM k f):
 bD P o ρ base {v:=.p (.int .i64 (min g.length len:Nat)),ar:=(b,.arr k az sz f)::ez H0 (ρ x),aM:=[(b,.arr k az sz (f.take off++g.take (min g.length len)++f.drop (off+min g.length len)))]}:=by
 obtain⟨T,X,O⟩:∃T X,c.argTypes=#[T,X]:=by
  obtain⟨l,G⟩:∃l,l=c.argTypes.toList:=⟨_,rfl⟩
  have s:l.length=2:=by rw[G];simpa using aq
  match l,s with
  |[a,b],_=>exact⟨a,b,by apply b2;simp[<-G]⟩
 have I:d∈o.op.operands/\x∈o.op.operands:=by
  have aa:c.args=#[d,x]:=by apply b2;simpa using Q
  rw[U];simp[hj,gj,hc,aa]
 have e1:c.argTypes.getD 0 0=T:=by rw[O];rfl
 rw[e1]at t;obtain⟨e,i,t⟩:=mw t;intro H w ad ai β Z D M ar _;have r:H[b]?=some (.arr k az sz f):=ar (b,_) s_;have j:=(M d I.1).1;rw[ab]at j;simp only[aB,bY,b7]at j;obtain⟨_,_,j⟩:=j.2 k f r;have j:=j C;rcases D.dj b _ r with hold|⟨cs,E,aC,rest,k1,k2,k3,k4,k5,k6,k7,k8⟩
 ·exact(C hold).elim
 have S:¬ad (β.au b)/\¬ai (β.au b):=by
  unfold cS at k7;rw[if_neg (by simpa using hk)]at k7;exact k7
 obtain⟨aA,av,aw,ax,ay⟩:=Ac (se hx (fun p ak=>ar p (h3 _ ak))) D (M x I.2).1 (M x I.2).2 ap;obtain⟨n,hn⟩:∃n,n=min g.length len:=⟨_,rfl⟩
 rw[<-hn];have Y:=ay w rfl n o_;obtain⟨y,m,z,g1,g2,g3,g4,g5⟩:=lV av 0 n o_;have au:y=[]:=by have:=(gX g4).1;simpa using this
 subst au;have ag:aA.take n=m:=by
  have:=(gX g2).1;rw[g1];simp at this⊢;rw[List.take_left' o_]
 rw[ag]at Y;simp only[j4]at g2;obtain⟨a,N,q,f1,f2,f3,f4,f5⟩:=lV k2 off n o_;have J:m.flatten.length=n*sz:=by have:=(gX g2).2;rw[this];congr 1;simp;omega
 have K:N.flatten.length=n*sz:=by have:=(gX f2).2;rw[this];congr 1;simp;omega
 have R:cs.toList=a.flatten++N.flatten++(q.flatten++rest):=by rw[k3,f1];simp
 have W:cs.size=a.flatten.length+N.flatten.length+(q.flatten++rest).length:=by
  have:=congrArg j3 R;simp only[hU,b4]at this;rw[this,hU]
 have L:=ea P (β.au b) (off*sz) E m.flatten 0 cs w k1 (by rw[W,f3,J,K];simp only[kp];exact kw _ _) (Al g2);simp only[kp]at L;have aY:cs.toList.take (off*sz)++m.flatten++cs.toList.drop (off*sz+m.flatten.length)=a.flatten++m.flatten++(q.flatten++rest):=by
  rw[R,<-f3,J,<-K];exact FM _ _ _ _
 rw[aY]at L;have an:(fd c.argTypes o.type #[Z d,Z x]).run P w=.ok (goInt n) (w.setRow (β.au b) (a.flatten++m.flatten++(q.flatten++rest)).toArray):=by
  rw[O,j];have ah:Nat.min g.length len=n:=hn.symm;have aD:∀(p:Option Addr)(n c:Nat),e8 (.slice p n c)=pure n:=fun _ _ _=>rfl;simp[fd,c9 t.iJ,ax,ah,t.run,Y,L]
 have B:(f.take off++g.take n++f.drop (off+n)).length=f.length:=by simp;omega
 have aO:cO β H β (H.set b (.arr k az sz (f.take off++g.take n++f.drop (off+n)))):=sL r (.inr (.inl ⟨_,_,_,_,_,rfl,rfl,B.symm⟩));have ao:∀A,ad A->(w.setRow (β.au b) (a.flatten++m.flatten++(q.flatten++rest)).toArray).heap[A]?=w.heap[A]?:=fun A af=>dz w _ A _ (fun F=>S.1 (F▸af));have hrefs:ba (aL H) (f.take off++g.take n++f.drop (off+n)):=by
  have V:=df.1 (D.refs b _ r);refine lU (lU ?_ ?_) ?_
  ·rw[df];exact fun v u=>V v (h2 u)
  ·rw[df];exact fun v u=>df.1 aw v (h2 u)
  ·rw[df];exact fun v u=>V v (h7 u)
 have ac:=oJ r (o:=.arr k az sz (f.take off++g.take n++f.drop (off+n))) (fun _ h=>h);have aj:¬dM k (f.take off++g.take n++f.drop (off+n)):=fun h=>C ⟨h.1,by have s:=h.2;rw[<-h5]at s⊢;rw[B]at s;exact s⟩;have am:=uq D r C (o':=.arr k az sz (f.take off++g.take n++f.drop (off+n))) aj (fun _ h=>h) k1 (new:=(a.flatten++m.flatten++(q.flatten++rest)).toArray) S aO
  (.inr ⟨_,E,a++m++q,rest,eb w _ _ _ E _ k1,by
   refine Row.mono (fun _ x=>x) ao aO hrefs (nu.2 ⟨_,_,rfl,nu.2 ⟨_,_,rfl,f4,g2⟩,f5⟩),s_,by
   rw[<-k4,W];simp only[ih,hU,J,K],by rw[B];exact k5,fun F=>by rw[B];exact k6 F,k7,(fun ae=>(hk ae).elim),k8.2⟩) (ba.mono ac _ hrefs)
 refine⟨_,_,_,β,ad,atB U hc Q an,.inl rfl,?_,by simp[aB,aE,goInt],by simp[aF]⟩;simpa only[newAt,hX,bA]using am
end
section
variable{P:dd}{w:dq}{ad ai:Nat->Prop}{β:Bd}{H:al}
variable{o:Oper}{ρ:da->AV}{base:Nat}
theorem Dd{c:Call}{x:da}(e:o.op=.call c){b:Builtin}(hc:c.callee=.builtin b)(d:c.args.toList=[x]):x∈o.op.operands/\c.args=#[x]:=by
 have a:c.args=#[x]:=by apply b2;simpa using d
 refine⟨?_,a⟩;rw[e];simp only[hj,gj,hc,a];simp
theorem Cl{T:db}{a:AV}(h:jj P T a=true)(hs:(∃b v e i l,a=.sl b v e i l)\/a=.p .aI\/∃f c,a=.p (.dw f c)):∃e,P.underlying T=some (.slice e):=by
 rcases hs with⟨b,v,e,i,l,rfl⟩|rfl|⟨f,c,rfl⟩<;>
 ·simp only[jj]at h
  split at h
  ·rename_i e d;exact⟨e,d⟩
  ·simp at h
theorem aPw{c:Call}{x:da}{n:Nat}{ar:List (Nat×Obj)}{H0:al}(u:o.op= .call c)(hc:c.callee= .builtin .cap)(z:c.args.toList=[x])(a:D0 H0 (ρ x)=some (n,ar))(m:jj P (c.argTypes.getD 0 0) (ρ x)=true)(E:0<c.argTypes.size):
 bD P o ρ base {v:=.p (.int .i64 n),ar}/\(∀p∈ar,H0[p.1]?=some p.2):=by
 obtain⟨q,A⟩:=Dd u hc z;have B:c.argTypes[0]?=some (c.argTypes.getD 0 0):=by simp[ce,E]
 generalize c.argTypes.getD 0 0=T at*
 have j:∀{H:al}{w:dq}{ad:Nat->Prop}{β:Bd}{f:da->dg},(∃p l,f x= .slice p l n)->(∃e,P.underlying T=some (.slice e))->
  ∃cv,(dl f o).run P w=.ok (.value cv) w/\aB P w ad β H (.p (.int .i64 n)) cv/\aF (aL H) (.p (.int .i64 n)):=by
  rintro H w ad β f ⟨p,l,hx⟩ ⟨e,F⟩;refine⟨goInt n,?_,by simp[aB,aE,goInt],by simp[aF]⟩;simp only[dl,u,resolve,hc,A];simp[invoke,builtin,gg,B,hx,c9 F]
 unfold D0 at a
 split at a
 ·rename_i hx;simp at a;obtain⟨rfl,rfl⟩:=a;refine⟨bD.same fun H w ad ai β f r g ar=>j ?_ (Cl m (.inr (.inl hx))),s_⟩;have d:=(g x q).1;rw[hx]at d;simp only[aB,aE]at d;exact⟨_,_,d⟩
 ·rename_i i hx;simp at a;obtain⟨rfl,rfl⟩:=a;refine⟨bD.same fun H w ad ai β f r g ar=>j ?_ (Cl m (.inr (.inr ⟨_,_,hx⟩))),s_⟩;have d:=(g x q).1;rw[hx]at d;simp only[aB,aE]at d;obtain⟨_,_,cap,_,_,_,_,_,y,_,_,_,k⟩:=d;exact⟨_,_,by rw[k,y trivial]⟩
 ·rename_i b az ak off len hx
  split at a
  case h_2=>simp at a
  rename_i K J i D
  split at a
  case isFalse=>simp at a
  rename_i C;obtain⟨rfl,rfl,hle⟩:=C;simp at a;obtain⟨rfl,rfl⟩:=a;refine⟨bD.same fun H w ad ai β f r g ar=>j ?_ (Cl m (.inl ⟨_,_,_,_,_,hx⟩)),by simpa using D⟩;have t:H[b]?=some (.arr .exact az ak i):=by simpa using ar
  have d:=(g x q).1;rw[hx]at d;simp only[aB,bY,b7]at d;obtain⟨_,_,k⟩:=d.2 _ _ t;have s:¬dM .exact i:=fun h=>by simp[dM,AK.gr]at h
  rcases r.dj b _ t with hold|⟨cs,G,I,rest,k1,k2,k3,k4,k5,k6,_⟩
  ·exact(s hold).elim
  exact⟨_,_,by rw[k s,k6 rfl]⟩
 ·simp at a
theorem XF{c:Call}{x:da}(b:o.op= .call c)(hc:c.callee= .builtin .clear)(f:c.args.toList=[x])(hx:ρ x= .p .aI)(d:jj P (c.argTypes.getD 0 0) (ρ x)=true)(j:0<c.argTypes.size):
 bD P o ρ base {v:=.p (.aC [])}:=by
 obtain⟨i,g⟩:=Dd b hc f;have h:c.argTypes[0]?=some (c.argTypes.getD 0 0):=by simp[ce,j]
 generalize c.argTypes.getD 0 0=T at*;obtain⟨e,k⟩:=Cl d (.inr (.inl hx));refine bD.same fun H w ad ai β n m l ar=>?_;have a:=(l x i).1;rw[hx]at a;simp only[aB,aE]at a;refine⟨.tuple #[],?_,by simp[aB,aE,bG],by simp[aF]⟩;simp only[dl,b,resolve,hc,g];simp[invoke,builtin,fb,h,a,c9 k]
theorem avD{c:Call}{x:da}{sz b az off len:Nat}{k:AK}{d:List AV}{z:PV}(M:o.op= .call c)(hc:c.callee= .builtin .clear)(V:c.args.toList=[x])(aj:0<c.argTypes.size)(l:c7 P (c.argTypes.getD 0 0)=some sz)
 (hz:cF P (fy P (c.argTypes.getD 0 0))=some z)(ap:bU P (aK z)=sz)(hx:ρ x=.sl b az sz off len)(hk:k≠.frozen)(ab:off+len<=d.length)(t:¬dM k d)(ao:0<len):
 bD P o ρ base {v:=.p (.aC []),ar:=[(b,.arr k az sz d)],aM:=[(b,.arr k az sz (d.take off++hV len (.p z)++d.drop (off+len)))]}:=by
 obtain⟨ac,W⟩:=Dd M hc V;have X:c.argTypes[0]?=some (c.argTypes.getD 0 0):=by simp[ce,aj]
 obtain⟨e,i,l⟩:=mw l;obtain⟨aq,r,z1,z2,z3,z4⟩:=uu hz;rw[l.tY]at z1;intro H w ad ai β U D am ar _;have j:H[b]?=some (.arr k az sz d):=ar (b,_) s_;have g:=(am x ac).1;rw[hx]at g;simp only[aB,bY,b7]at g;obtain⟨_,_,g⟩:=g.2 k d j;have g:=g t;rcases D.dj b _ j with hold|⟨cs,u,an,rest,k1,k2,k3,k4,k5,k6,k7,k8⟩
 ·exact(t hold).elim
 have K:¬ad (β.au b)/\¬ai (β.au b):=by
  unfold cS at k7;rw[if_neg (by simpa using hk)]at k7;exact k7
 have Q:=z3 w ad;have R:r.cells.size=sz:=by have:=(sH Q).1;simp at this;omega
 have al:r.cells.toList.length=sz:=by simpa using R
 have E:=Cg (β:=β) (H:=H) Q len;rw[al]at E;obtain⟨m,L⟩:∃m,m=hV len r.cells.toList:=⟨_,rfl⟩
 rw[<-L]at E;have F:Row P w ad β H sz (hV len (.p z)) m:=by
  exact E
 obtain⟨a,I,f,f1,f2,f3,f4,f5⟩:=lV k2 off len ab;have B:m.flatten.length=len*sz:=by have:=(gX F).2;rw[this];simp
 have C:I.flatten.length=len*sz:=by have:=(gX f2).2;rw[this];congr 1;simp;omega
 have J:cs.toList=a.flatten++I.flatten++(f.flatten++rest):=by rw[k3,f1];simp
 have O:cs.size=a.flatten.length+I.flatten.length+(f.flatten++rest).length:=by
  have:=congrArg j3 J;simp only[hU,b4]at this;rw[this,hU]
 have G:=ea P (β.au b) (off*sz) u m.flatten 0 cs w k1 (by rw[O,f3,B,C];simp only[kp];exact kw _ _) (Al F);simp only[kp]at G;have aY:cs.toList.take (off*sz)++m.flatten++cs.toList.drop (off*sz+m.flatten.length)=a.flatten++m.flatten++(f.flatten++rest):=by
  rw[J,<-f3,B,<-C];exact FM _ _ _ _
 rw[aY]at G;have ak:(e9 r.cells len).toList=m.flatten:=by
  have:=FU r.cells len (by rw[R];exact l.pos);rw[L,<-this];rfl
 have ag:(dl U o).run P w=.ok (.value (.tuple #[])) (w.setRow (β.au b) (a.flatten++m.flatten++(f.flatten++rest)).toArray):=by
  obtain⟨S,rfl⟩:∃S,len=S+1:=⟨len-1,o_⟩
  simp only[dl,M,resolve,hc,W];generalize c.argTypes.getD 0 0=T at*;simp only[hG,hH,hE,invoke,builtin,iB,hW,h8];have key:(fb c.argTypes o.type #[U x]).run P w=.ok (.tuple #[]) (w.setRow (β.au b) (a.flatten++m.flatten++(f.flatten++rest)).toArray):=by
   simp[fb,X,g,c9 l.iJ,xp z1 z2,ak,G]
  rw[key];rfl
 have s:(d.take off++hV len (AV.p z)++d.drop (off+len)).length=d.length:=by simp;omega
 have aO:cO β H β (H.set b (.arr k az sz (d.take off++hV len (.p z)++d.drop (off+len)))):=sL j (.inr (.inl ⟨_,_,_,_,_,rfl,rfl,s.symm⟩));have ah:∀q,ad q->(w.setRow (β.au b) (a.flatten++m.flatten++(f.flatten++rest)).toArray).heap[q]?=w.heap[q]?:=fun q aa=>dz w _ q _ (fun A=>K.1 (A▸aa));have hrefs:ba (aL H) (d.take off++hV len (AV.p z)++d.drop (off+len)):=by
  have N:=df.1 (D.refs b _ j);refine lU (lU ?_ ?_) ?_
  ·rw[df];exact fun v n=>N v (h2 n)
  ·rw[df];intro v n;rw[List.eq_of_mem_replicate n];simp[aF]
  ·rw[df];exact fun v n=>N v (h7 n)
 have Y:=oJ j (o:=.arr k az sz (d.take off++hV len (.p z)++d.drop (off+len))) (fun _ h=>h);have ae:¬dM k (d.take off++hV len (AV.p z)++d.drop (off+len)):=fun h=>t ⟨h.1,by have y:=h.2;rw[<-h5]at y⊢;rw[s]at y;exact y⟩;have af:=uq D j t (o':=.arr k az sz (d.take off++hV len (AV.p z)++d.drop (off+len))) ae (fun _ h=>h) k1 (new:=(a.flatten++m.flatten++(f.flatten++rest)).toArray) K aO
  (.inr ⟨_,u,a++m++f,rest,eb w _ _ _ u _ k1,by
   refine Row.mono (fun _ x=>x) ah aO hrefs (nu.2 ⟨_,_,rfl,nu.2 ⟨_,_,rfl,f4,F⟩,f5⟩),s_,by
   rw[<-k4,O];simp only[ih,hU,B,C],by rw[s];exact k5,fun A=>by rw[s];exact k6 A,k7,(fun Z=>(hk Z).elim),k8.2⟩) (ba.mono Y _ hrefs)
 refine⟨_,_,_,β,ad,ag,.inl rfl,?_,by simp[aB,aE,bG],by simp[aF]⟩;simpa only[newAt,hX,bA]using af
theorem FR{c:Call}{x:da}{v:AV}{ar:List (Nat×Obj)}{H0:al}(i:o.op= .call c)(hc:c.callee= .builtin .unsafeSliceData)(l:c.args.toList=[x])
 (h:(ρ x=.p .aI/\v=.p .eO/\ar=[])\/∃b az ak off len k a,ρ x=.sl b az ak off len/\H0[b]?=some (.arr k az ak a)/\ar=[(b,.arr k az ak a)]/\((dM k a/\v=.p .eO)\/(0<len/\off+len<=a.length/\v=.cA b az ak off []))):
 bD P o ρ base {v,ar}:=by
 obtain⟨q,m⟩:=Dd i hc l;refine bD.same fun H w ad ai β j r t n=>?_;obtain⟨d,f⟩:=t x q;have e:∀cv,(gb c.argTypes o.type #[j x]).run P w=.ok cv w->(dl j o).run P w=.ok (.value cv) w:=by
  intro cv s;simp only[dl,i,resolve,hc,m];simp only[hG,hH,hE,invoke,builtin,iB,hW,h8];rw[s];rfl
 rcases h with⟨hx,rfl,rfl⟩|⟨b,az,ak,off,len,k,a,hx,B,rfl,h⟩
 ·rw[hx]at d;simp only[aB,aE]at d;exact⟨_,e _ (by rw[d];exact Lib.run_unsafeSliceData_nil w _ _ _ _),by simp[aB,aE],by simp[aF]⟩
 ·have g:H[b]?=some (.arr k az ak a):=by simpa using n
  rw[hx]at d f;simp only[aB,bY,b7]at d;obtain⟨_,v2,v3⟩:=d.2 k a g;rcases h with⟨hn,rfl⟩|⟨C,hle,rfl⟩
  ·exact⟨_,e _ (by rw[v2 hn];exact Lib.run_unsafeSliceData_nil w _ _ _ _),by simp[aB,aE],by simp[aF]⟩
  ·have hn:¬dM k a:=fun h=>by rw[h.2]at hle;simp at hle;omega
   rcases r.dj b _ g with hold|⟨cs,u,y,rest,k1,k2,k3,k4,k5,_⟩
   ·exact(hn hold).elim
   refine⟨_,e _ (by rw[v3 hn];exact Lib.run_unsafeSliceData_row w _ _ _ _ _ o_),?_,by simpa only[aF]using f⟩;simp only[aB,bY,b7];refine⟨by simp[hO],β.au b,off*ak,0,s_,rfl,fun D z A _=>⟨rfl,s_⟩⟩
theorem atz(w:dq)(a:Addr)(n:Nat):(w.freeze a n).os=w.os/\(w.freeze a n).output=w.output:=by
 unfold hQ
 first|exact⟨rfl,rfl⟩|(split<;>exact⟨rfl,rfl⟩)
theorem ate{w':dq}(j:cB P w ad β H ai){b:Nat}{o:Obj}(i:H[b]?=some o)(v:o.live)(g:¬ad (β.au b)/\¬ai (β.au b))(C:∀L,o≠ .loop L)(D:w'.heap.size=w.heap.size)
 (hs:∀k,k≠β.au b->w'.heap[k]?=w.heap[k]?)(B:w'.os=w.os/\w'.output=w.output:=by exact⟨rfl,rfl⟩):ct P ai ad w β H ad w' β (H.set b .dead):=by
 have n:b<H.length:=(hS.1 i).1;have c:∀(x:Nat)(a:Obj),(H.set b Obj.dead)[x]?=some a->a≠.dead->H[x]?=some a:=by
  intro x a hx q
  by_cases l:b=x
  ·subst l;rw[hT n]at hx;cases hx;exact(q rfl).elim
  ·rwa [h4 l]at hx
 have aO:cO β H β (H.set b .dead):=by
  refine⟨?_,?_,?_,?_,?_⟩
  ·rintro x _ ⟨f,t,h⟩;exact⟨⟨f,t,c _ _ h s_⟩,rfl⟩
  ·rintro x _ ⟨f,t,h⟩;exact⟨⟨f,t,c _ _ h s_⟩,rfl⟩
  ·rintro x _ ⟨E,h,p⟩;exact⟨⟨E,c _ _ h (fun e=>by rw[e]at p;exact p.elim),p⟩,rfl⟩
  ·intro x az ak k y _ h;exact⟨k,y,c _ _ h s_,kk _,Iff.rfl,fun _=>⟨rfl,rfl⟩⟩
  ·rintro x _ ⟨L,h⟩;exact⟨⟨L,c _ _ h s_⟩,rfl⟩
 have m:ct P ai ad w β H ad w β (H.set b .dead):=
  ct.set j n (fun _ _=>⟨rfl,rfl⟩) (fun _ x=>x) (fun _ x=>.inl x) j.cq (kk _) (fun _ _ _=>rfl) (fun h=>h.elim) aO trivial trivial (fun _ _ _ _=>trivial) (fun L s=>by rw[i]at s;cases s;exact(C L rfl).elim)
 have hx:=j.rl i v;have z:=m.rel.Pb hx (fun x a r d u=>by
  have q:a≠.dead:=fun e=>by rw[e]at d;exact d
  have l:x=b:=j.inj x b a o (c _ _ r q) i d v (fun hi=>g.1 (u▸hi)) u;subst l;rw[hT n]at r;cases r;exact d)
 have A:=z.shut (w':=w') (Prot0:=ai) (fun _ h=>.inl h) (R:=fun k=>k=β.au b) (fun x e=>⟨.inr e,e▸g.1⟩) D (fun k hk=>hs k hk);refine⟨fun _ h=>h,fun _ h=>.inl h,⟨o_,fun k hk=>hs k (fun e=>?_),B⟩,aO,A,m.gU,m.loop⟩;rcases hk with hk|hk
 ·exact g.2 (e▸hk)
 ·exact g.1 (e▸hk)
theorem Gv:∀{d:List AV}{l:List Nat}{b:List (List dg)},bytesOf d=some l->Row P w ad β H 1 d b->b.flatten=l.map (fun c=>hP .u8 (c:Nat))/\l.length=d.length/\∀c∈l,c<256
 |[],l,b,h,a=>by
  simp[bytesOf]at h;subst h;rw[jC]at a;subst a;simp
 |v::d,l,b,h,a=>by
  unfold bytesOf at h
  split at h
  ·rename_i e;cases e
  ·rename_i c r e;simp at e;obtain⟨rfl,rfl⟩:=e
   split at h
   case isFalse=>simp at h
   rename_i hc
   split at h
   case h_2=>simp at h
   rename_i m i;simp at h;subst h;rw[uD]at a;obtain⟨j,cs,rfl,f,k,g⟩:=a;obtain⟨i1,i2,i3⟩:=Gv i g;simp only[bC,bd]at f;subst f;refine⟨by simp[i1];omega,by simp[i2],?_⟩;intro x hx;rcases hZ.1 hx with rfl|hx
   ·omega
   ·exact i3 x hx
  ·simp at h
theorem XS{S D e:db}{x:da}{b az off len:Nat}{k:AK}{d:List AV}{l:List Nat}(r:o.op= .convert S D x)(B:P.underlying S=some (.slice e))(y:P.underlying D=some .string)(A:P.underlying e=some (.int .u8))(hx:ρ x= .sl b az 1 off len)
 (M:0<len)(j:off+len<=d.length)(E:bytesOf ((d.drop off).take len)=some l):bD P o ρ base {v:=.p (.str l),ar:=[(b,.arr k az 1 d)]}:=by
 refine bD.same fun H w ad ai β N G J ar=>?_;have q:H[b]?=some (.arr k az 1 d):=by simpa using ar
 have f:=(J x (by simp[r,hj])).1;rw[hx]at f;simp only[aB,bY,b7]at f;have n:¬dM k d:=fun h=>by rw[h.2]at j;simp at j;omega
 have f:=(f.2 _ _ q).2.2 n;rcases G.dj b _ q with hold|⟨cs,K,L,rest,k1,k2,k3,k4,k5,k6,k7,k8⟩
 ·exact(n hold).elim
 obtain⟨a,m,z,g1,g2,g3,g4,g5⟩:=lV k2 off len j;obtain⟨s,t,u⟩:=Gv E g2;have F:l.length=len:=by rw[t];simp;omega
 have C:cs.toList=a.flatten++(l.map (fun c=>hP .u8 (c:Nat))++(z.flatten++rest)):=by
  rw[k3,g1];simp only[ix,ii,s]
 have I:=run_convert_bytes_arg (P:=P) w S e B A (β.au b) (off*1) len (β.cap b-off) (l.map fun c:Nat=>(c:Int)) (by simpa using F) (fun i hi=>by
  have g:i<l.length:=o_
  have:cs[off*1+i]?=some (.int .u8 (l[i]:Nat)):=by
   rw[<-b3,C,List.getElem?_append_right o_,g3,Nat.add_sub_cancel_left,iA (by simpa using g),j2,h0 g];rfl
  rw[List.getD_eq_getElem?_getD,j2,h0 g];simp only[hR,k1];simpa using this) D y
 refine⟨.string (strOfNums (l.map fun c:Nat=>(c:Int))),?_,?_,by simp[aF]⟩
 ·simp only[dl,r,f];exact fI I
 ·simp only[aB,aE];refine⟨_,rfl,?_⟩;rw[strOfNums_data,i5,i5]
  conv=>lhs;rw[<-kh l]
  refine js fun c hc=>?_;have:=u c hc;simp[lm];omega
theorem Xg{c:Call}{x y:da}{b az n:Nat}{d:List AV}{l:List Nat}{T X:db}(F:o.op= .call c)(hc:c.callee= .builtin .unsafeString)(N:c.args.toList=[x,y])(ab:c.argTypes=#[T,X])(hx:ρ x= .cA b az 1 0 [])(ae:ρ y= .p (.int .i64 n))
 (ah:0<n)(C:n<=d.length)(aj:n<=9223372036854775807)(M:P.underlying T=some (.pointer Gl.u8))(ac:P.cellsOf Gl.u8=1)(W:bytesOf (d.take n)=some l):
 bD P o ρ base {v:=.p (.str l),ar:=[(b,.arr .bytes az 1 d)],aM:=[(b,.dead)]}:=by
 have s:c.args=#[x,y]:=by apply b2;simpa using N
 have D:x∈o.op.operands/\y∈o.op.operands:=by
  rw[F];simp[hj,gj,hc,s]
 intro H w ad ai β r G I ar _;have q:H[b]?=some (.arr .bytes az 1 d):=by simpa using ar
 have e:=(I x D.1).1;have f:=(I y D.2).1;rw[hx]at e;rw[ae]at f;simp only[aB,bY,b7,aE]at e f;have i:¬dM .bytes d:=fun h=>by rw[h.2]at C;simp at C;omega
 obtain⟨_,au,off,ak,Y,E,e⟩:=e;simp[iv]at E;subst E;obtain⟨rfl,rfl⟩:=e _ _ q i;rcases G.dj b _ q with hold|⟨cs,af,ag,rest,k1,k2,k3,k4,k5,k6,k7,k8⟩
 ·exact(i hold).elim
 obtain rfl:=k8.2 rfl;have U:¬ad (β.au b)/\¬ai (β.au b):=by
  unfold cS at k7;rw[if_neg s_]at k7;exact k7
 obtain⟨a,m,z,g1,g2,g3,g4,g5⟩:=lV k2 0 n o_;have O:a=[]:=by have:=(gX g4).1;simpa using this
 subst O;rw[j4]at g2;obtain⟨J,K,L⟩:=Gv W g2;obtain⟨bs,u⟩:∃bs:List UInt8,bs=l.map ls:=⟨_,rfl⟩
 have g:bs.length=n:=by rw[u];simp[K];omega
 have t:bs.map (·.toNat)=l:=by
  rw[u,i5]
  conv=>rhs;rw[<-kh l]
  refine js fun c hc=>?_;have:=L c hc;simp[lm];omega
 have A:cs.toList=bs.map (fun c=>hP .u8 c.toNat)++(z.flatten++rest):=by
  rw[k3,g1];simp only[i6,ix,ii,J];congr 1;rw[<-t,i5];rfl
 have aa:=Lib.run_unsafeString_row (P:=P) w T X o.type Gl.u8 M ac (β.au b) cs.size (by simp[World.shape?,k1]) bs (fun h=>by rw[h]at g;simp at g;omega) (by
  have:=congrArg j3 A;simp only[b4,hU,kb]at this;omega) o_ (fun j v B=>by
  have V:j<bs.length:=(hS.1 B).1;rw[mC];have:cs[j]?=some (.int .u8 v.toNat):=by
   rw[<-b3,A,iA (by simpa using V),j2,B];rfl
  simp[hR,k1,this])
 have Q:(dl r o).run P w=.ok (.value (.string ⟨bs.toArray⟩)) (w.freeze ⟨β.au b,0,none⟩ bs.length):=by
  simp only[dl,F,resolve,hc,s];simp only[hG,hH,hE,invoke,builtin,iB,hW,h8];have key:(fl c.argTypes o.type #[r x,r y]).run P w=.ok (.string ⟨bs.toArray⟩) (w.freeze ⟨β.au b,0,none⟩ bs.length):=by
   rw[ab,Y,f,<-g];simpa using aa
  rw[key];rfl
 have S:∀k,k≠β.au b->(w.freeze ⟨β.au b,0,none⟩ bs.length).heap[k]?=w.heap[k]?:=by
  intro k hk;unfold hQ
  split
  ·rfl
  ·simp[Array.getElem?_modify,kP hk]
 have R:(w.freeze ⟨β.au b,0,none⟩ bs.length).heap.size=w.heap.size:=by
  unfold hQ
  split<;>simp
 have Z:=ate G q i U (fun _ h=>by cases h) R S (atz _ _ _);refine⟨_,_,_,β,ad,Q,.inl rfl,?_,?_,by simp[aF]⟩
 ·simpa only[newAt,hX,bA]using Z
 ·simp only[aB,aE];exact⟨_,rfl,by simpa using t.symm⟩
theorem Xd{c:Call}{x y:da}{T X:db}(f:o.op= .call c)(hc:c.callee= .builtin .unsafeString)(i:c.args.toList=[x,y])(j:c.argTypes=#[T,X])(hx:ρ x= .p .eO)(k:ρ y= .p (.int .i64 0)):
 bD P o ρ base {v:=.p (.str [])}:=by
 have d:c.args=#[x,y]:=by apply b2;simpa using i
 have e:x∈o.op.operands/\y∈o.op.operands:=by
  rw[f];simp[hj,gj,hc,d]
 refine bD.same fun H w ad ai β h l g ar=>?_;have a:=(g x e.1).1;have b:=(g y e.2).1;rw[hx]at a;rw[k]at b;simp only[aB,aE]at a b;refine⟨.string .empty,?_,by simp only[aB,aE];exact⟨_,rfl,rfl⟩,by simp[aF]⟩;simp only[dl,f,resolve,hc,d];simp only[hG,hH,hE,invoke,builtin,iB,hW,h8];have key:(fl c.argTypes o.type #[h x,h y]).run P w=.ok (.string .empty) w:=by
  rw[j,a,b];exact Lib.run_unsafeString_none w _ _ _ _
 rw[key];rfl
end
section
variable{P:dd}
theorem HV{c:Call}{ρ:da->AV}{x:AV}(a:c.args.toList.map ρ=[x]):∃y,c.args.toList=[y]/\ρ y=x:=by
 match b:c.args.toList with
 |[]=>rw[b]at a;simp at a
 |[y]=>rw[b]at a;simp at a;exact⟨y,rfl,a⟩
 |_::_::_=>rw[b]at a;simp at a
theorem Ob{c:Call}(h:c.argTypes.size=2):∃T X,c.argTypes=#[T,X]:=by
 obtain⟨l,d⟩:∃l,l=c.argTypes.toList:=⟨_,rfl⟩
 have e:l.length=2:=by rw[d];simpa using h
 match l,e with
 |[a,b],_=>exact⟨a,b,by apply b2;simp[<-d]⟩
theorem sA(ah:dp->Bool):nX P ah:=by
 intro o ρ H K _ h;unfold gJ at h;have plain:∀{e:aZ},K e->bD P o ρ H.length e->e.ar=[]->e.aM=[]->∃e,K e/\bD P o ρ H.length e/\(∀p∈e.ar,H[p.1]?=some p.2)/\(∀p∈e.aM,p.1<H.length/\p.2≠.hole):=by
  intro e A B G I;exact⟨e,A,B,by simp[G],by simp[I]⟩
 cases q:o.op<;>simp only[q]at h
 case move x=>exact plain h (UE (.inl q)) rfl rfl
 case assign x=>exact plain h (UE (.inr q)) rfl rfl
 case pick c a b=>
  split at h
  ·rename_i t hc;exact plain h (aPC q hc) rfl rfl
  ·exact h.elim
 case alloc T=>
  split at h
  ·rename_i z hz;exact plain h.2.2.2 (avF q hz h.2.2.1) rfl rfl
  ·exact h.elim
 case box T x=>exact plain h.2.2.2 (aPv q h.2.1 h.2.2.1) rfl rfl
 case build T parts=>
  split at h
  ·rename_i u z hk hz
   split at h
   ·rename_i l C;obtain⟨A,B,G⟩:=h;exact plain G (avE q hk hz C A B) rfl rfl
   ·exact h.elim
  ·exact h.elim
 case buildSlice T n parts=>
  split at h
  ·rename_i sz z U hz;obtain⟨A,B,G,I⟩:=h;exact plain I (XG q U hz A B G) rfl rfl
  ·exact h.elim
 case load T a=>exact aPA q h
 case store T a x=>exact avz q h
 case binOp b T x y aE=>
  obtain⟨v,A,B⟩:=aPu (base:=H.length) q h;exact⟨_,A,B,qM,s_⟩
 case unOp u T x=>
  split at h
  ·rename_i b hx;exact plain h (I6 q hx (.inl ⟨rfl,_,rfl,rfl⟩)) rfl rfl
  ·rename_i k n hx;exact plain h (I6 q hx (.inr (.inl ⟨rfl,_,_,rfl,rfl⟩))) rfl rfl
  ·rename_i k n hx;exact plain h (I6 q hx (.inr (.inr ⟨rfl,_,_,rfl,rfl⟩))) rfl rfl
  ·exact h.elim
 case convert S D x=>
  split at h
  ·rename_i d k k0 n aa Z hx;exact plain h (Zd q ⟨_,aa⟩ Z hx) rfl rfl
  ·rename_i d s aa Z hx;exact plain h (Zc q ⟨_,aa⟩ Z hx) rfl rfl
  ·rename_i e b az ak off len aa Z hx
   split at h
   case h_2=>exact h.elim
   rename_i k af ad R w;obtain⟨rfl,rfl,rfl,U,ag,hle,h⟩:=h
   split at h
   case h_2=>exact h.elim
   rename_i l C;exact⟨_,h,XS q aa Z U hx ag hle C,by simpa using w,s_⟩
  ·exact h.elim
 case extract t i=>
  split at h
  ·rename_i vs am
   split at h
   ·rename_i v an;exact plain h (N2 q (.inr ⟨_,am,rfl⟩) (by simp[an])) rfl rfl
   ·exact h.elim
  ·rename_i vs am
   split at h
   ·rename_i v an;exact plain h (N2 q (.inl am) an) rfl rfl
   ·exact h.elim
  ·exact h.elim
 case fieldAddr T a f=>
  obtain⟨e,A,B,G,I⟩:=XR (base:=H.length) q h;exact plain A B G I
 case indexAddr T x i=>
  obtain⟨e,A,B,G,I⟩:=XQ (base:=H.length) q h;exact⟨e,A,B,G,by simp[I]⟩
 case field T x f=>
  split at h
  ·rename_i u fs t hk ax hx;obtain⟨A,h⟩:=h
   split at h
   ·rename_i g F al ai;exact plain h.2 (avC q hk ax hx A al ai h.1) rfl rfl
   ·exact h.elim
  ·exact h.elim
 case index T x i=>
  split at h
  ·rename_i s k n hx hi;obtain⟨A,B,G,I⟩:=h;exact plain I (YR q hx hi A B G) rfl rfl
  ·rename_i u R k n hx hi
   split at h
   ·rename_i u' m F g J ai al;obtain⟨rfl,ag,hn,hk,h⟩:=h;exact plain h (YS q J hx hi ag hn ai al hk) rfl rfl
   ·exact h.elim
  ·exact h.elim
 case makeFunc fn fi ca=>
  cases fn<;>simp only at h
  case func f=>
   obtain⟨m1,m2,m3⟩:=YQ (ρ:=ρ) (base:=H.length) q
   split at h
   ·split at h
    ·rename_i a b ar aM j aj;obtain⟨q1,ab,aD⟩:=m3 H a b ar aM j aj;exact⟨_,h,q1,ab,aD⟩
    ·exact h.elim
   ·split at h
    ·rename_i a b j aj;exact plain h (m1 a b j aj) rfl rfl
    ·exact plain h m2 rfl rfl
 case makeSlice T l c=>
  split at h
  ·rename_i sz z aF c' U hz C hc;obtain⟨A,B,rfl,I,N⟩:=h;exact plain N (XP q U hz C hc A B I) rfl rfl
  ·exact h.elim
 case slice T x lo hi ay=>
  cases ay with
  |none=>
   obtain⟨e,A,B,G,I⟩:=avA (base:=H.length) q h;exact⟨e,A,B,G,by simp[I]⟩
  |some m=>
   obtain⟨e,A,B,G,I⟩:=asM (base:=H.length) q h;exact⟨e,A,B,G,by simp[I]⟩
 case makeMap T r=>
  cases r<;>simp only at h;exact plain h (Zb q) rfl rfl
 case lookup T x i ok=>
  split at h
  case h_2=>exact h.elim
  rename_i ac E key J hi
  split at h
  case h_2=>exact h.elim
  rename_i z hz;obtain⟨hk,h⟩:=h
  split at h
  ·rename_i hx;exact plain h (zH (r:=none) (es:=[]) q J hz hi hk rfl (.inl ⟨hx,rfl⟩)) rfl rfl
  ·rename_i R hx
   split at h
   ·rename_i v C;exact plain h (zH (r:=some v) q J hz hi hk C (.inr (.inl hx))) rfl rfl
   ·rename_i C;exact plain h (zH (r:=none) q J hz hi hk C (.inr (.inl hx))) rfl rfl
   ·exact h.elim
  ·rename_i b hx
   split at h
   case h_3=>exact h.elim
   ·rename_i fz R w
    split at h
    ·rename_i v C;exact⟨_,h,zH (r:=some v) q J hz hi hk C (.inr (.inr ⟨b,fz,hx,s_⟩)),by simpa using w,s_⟩
    ·rename_i C;exact⟨_,h,zH (r:=none) q J hz hi hk C (.inr (.inr ⟨b,fz,hx,s_⟩)),by simpa using w,s_⟩
    ·exact h.elim
   ·rename_i ks vs w;obtain⟨O,h⟩:=h
    split at h
    ·rename_i v C;exact⟨_,h,Km (r:=some v) q J hz hi hk O C hx,by simpa using w,s_⟩
    ·rename_i C;exact⟨_,h,Km (r:=none) q J hz hi hk O C hx,by simpa using w,s_⟩
    ·exact h.elim
  ·exact h.elim
 case mapUpdate T m k x=>
  split at h
  case h_3=>exact h.elim
  ·rename_i ac E b key v J V hk hx;obtain⟨hf,h⟩:=h
   split at h
   case h_3=>exact h.elim
   ·rename_i R w
    split at h
    case h_2=>exact h.elim
    rename_i r C;exact⟨_,h,ME (.inl q) J V hk hx hf C,by simpa using w,by simpa using(hS.1 w).1⟩
   ·rename_i ks vs w;obtain⟨ao,ap,j,O,C,h⟩:=BE h;rw[<-hx]at h;exact⟨_,h,BF (.inl q) J V hk hf j O C,by simpa using w,by simpa using(hS.1 w).1⟩
  ·rename_i ac E b key J V hk _;obtain⟨hf,h⟩:=h
   split at h
   case h_2=>exact h.elim
   rename_i aC w;obtain⟨ao,ap,j,O,C,h⟩:=BE h;exact⟨_,h,BF (.inl q) J V hk hf j O C,by simpa using w,by simpa using(hS.1 w).1⟩
 case insert T m k x=>
  split at h
  case h_3=>exact h.elim
  ·rename_i ac E b key v J V hk hx;obtain⟨hf,h⟩:=h
   split at h
   case h_3=>exact h.elim
   ·rename_i R w
    split at h
    case h_2=>exact h.elim
    rename_i r C;exact⟨_,h,ME (.inr q) J V hk hx hf C,by simpa using w,by simpa using(hS.1 w).1⟩
   ·rename_i ks vs w;obtain⟨ao,ap,j,O,C,h⟩:=BE h;rw[<-hx]at h;exact⟨_,h,BF (.inr q) J V hk hf j O C,by simpa using w,by simpa using(hS.1 w).1⟩
  ·rename_i ac E b key J V hk _;obtain⟨hf,h⟩:=h
   split at h
   case h_2=>exact h.elim
   rename_i aC w;obtain⟨ao,ap,j,O,C,h⟩:=BE h;exact⟨_,h,BF (.inr q) J V hk hf j O C,by simpa using w,by simpa using(hS.1 w).1⟩
 case range T x=>
  split at h
  ·rename_i s hx;exact plain h.2 (avB q hx h.1) rfl rfl
  ·exact h.elim
 case next it isStr=>
  cases isStr<;>simp only at h
  split at h
  case h_2=>exact h.elim
  rename_i b hx
  split at h
  case h_2=>exact h.elim
  rename_i s pos w;obtain⟨aA,aB⟩:=aPB (P:=P) (base:=H.length) (s:=s) (pos:=pos) q hx
  split at h
  ·rename_i W;exact⟨_,h,aA W,by simpa using w,by simpa using(hS.1 w).1⟩
  ·rename_i W;exact⟨_,h,aB W,by simpa using w,s_⟩
 case nilCheck x=>
  split at h
  ·rename_i b p hx;exact plain h (FO q (.inl ⟨b,p,hx⟩)) rfl rfl
  ·rename_i b v e i p hx;exact plain h (FO q (.inr (.inl ⟨b,v,e,i,p,hx⟩))) rfl rfl
  ·rename_i t hx;exact plain h (FO q (.inr (.inr ⟨t,hx⟩))) rfl rfl
  ·exact h.elim
 case call c=>
  split at h
  case h_2=>exact h.elim
  rename_i b hc
  split at h
  ·rename_i x j
   split at h
   case h_2=>exact h.elim
   rename_i n ar C;obtain⟨A,B,G⟩:=h;obtain⟨y,M,rfl⟩:∃y,c.args.toList=[y]/\ρ y=x:=by
    match L:c.args.toList with
    |[]=>rw[L]at j;simp at j
    |[y]=>rw[L]at j;simp at j;exact⟨y,rfl,j⟩
    |_::_::_=>rw[L]at j;simp at j
   obtain⟨q1,ab⟩:=aPz (P:=P) (base:=H.length) q hc M C A B;exact⟨_,G,q1,ab,s_⟩
  ·rename_i s x j;obtain⟨y,z,M,rfl,rfl⟩:∃y z,c.args.toList=[y,z]/\ρ y=s/\ρ z=x:=by
    match L:c.args.toList with
    |[]=>rw[L]at j;simp at j
    |[y]=>rw[L]at j;simp at j
    |[y,z]=>rw[L]at j;simp at j;exact⟨y,z,rfl,j.1,j.2⟩
    |_::_::_::_=>rw[L]at j;simp at j
   exact asP q hc M h.1 h.2
  ·rename_i k a r j
   split at h
   ·rename_i n hn;exact plain h (Oj (isMax:=false) q hc j hn) rfl rfl
   ·exact h.elim
  ·rename_i k a r j
   split at h
   ·rename_i n hn;exact plain h (Oj (isMax:=true) q hc j hn) rfl rfl
   ·exact h.elim
  ·rename_i d x j;obtain⟨y,z,M,av,rfl⟩:∃y z,c.args.toList=[y,z]/\ρ y=d/\ρ z=x:=by
    match L:c.args.toList with
    |[]=>rw[L]at j;simp at j
    |[y]=>rw[L]at j;simp at j
    |[y,z]=>rw[L]at j;simp at j;exact⟨y,z,rfl,j.1,j.2⟩
    |_::_::_::_=>rw[L]at j;simp at j
   split at h
   case h_2=>exact h.elim
   rename_i sz b az ak off len aG U hx;obtain⟨rfl,A,B,h⟩:=h
   split at h
   case h_2=>exact h.elim
   rename_i k af ad R w;obtain⟨rfl,rfl,G,I,N,Y⟩:=h;refine⟨_,Y,aPx q hc M B U av hx A G I N,?_,by simpa using(hS.1 w).1⟩;intro p W;rcases hZ.1 W with rfl|W
   ·exact w
   ·exact qM p W
  ·rename_i x j;obtain⟨y,M,rfl⟩:=HV j
   split at h
   case h_2=>exact h.elim
   rename_i n ar C;obtain⟨A,B,G⟩:=h;obtain⟨q1,ab⟩:=aPw (P:=P) (base:=H.length) q hc M C A B;exact⟨_,G,q1,ab,s_⟩
  ·rename_i x j;obtain⟨y,M,Q⟩:=HV j
   split at h
   ·rw[<-Q]at h;exact plain h.2.2 (XF q hc M Q h.1 h.2.1) rfl rfl
   ·split at h
    ·rename_i b az ak off len sz z k af ad R U hz w;obtain⟨rfl,rfl,rfl,A,B,G,I,N,Y,au⟩:=h;exact⟨_,au,avD q hc M N U hz A Q B G I Y,by simpa using w,by simpa using(hS.1 w).1⟩
    ·exact h.elim
   ·exact h.elim
  ·rename_i x j;obtain⟨y,M,Q⟩:=HV j
   split at h
   ·exact plain h (FR (H0:=H) q hc M (.inl ⟨Q,rfl,rfl⟩)) rfl rfl
   ·split at h
    ·rename_i b az ak off len k af ad R w;obtain⟨rfl,rfl,h⟩:=h;rcases h with⟨A,B,G⟩|⟨A,B,G⟩
     ·exact⟨_,G,FR q hc M (.inr ⟨_,_,_,_,_,_,_,Q,w,rfl,.inl ⟨⟨A,B⟩,rfl⟩⟩),by simpa using w,s_⟩
     ·exact⟨_,G,FR q hc M (.inr ⟨_,_,_,_,_,_,_,Q,w,rfl,.inr ⟨A,B,rfl⟩⟩),by simpa using w,s_⟩
    ·exact h.elim
   ·exact h.elim
  ·rename_i x n j;obtain⟨y,z,M,Q,aq⟩:∃y z,c.args.toList=[y,z]/\ρ y=x/\ρ z=.p (.int .i64 n):=by
    match L:c.args.toList with
    |[]=>rw[L]at j;simp at j
    |[y]=>rw[L]at j;simp at j
    |[y,z]=>rw[L]at j;simp at j;exact⟨y,z,rfl,j.1,j.2⟩
    |_::_::_::_=>rw[L]at j;simp at j
   split at h
   ·obtain⟨rfl,A,B⟩:=h;obtain⟨T,X,ae⟩:=Ob A;exact plain B (Xd q hc M ae Q aq) rfl rfl
   ·split at h
    ·rename_i b az ak i af ad R w;obtain⟨rfl,rfl,rfl,rfl,A,B,G,I,N,Y,h⟩:=h;obtain⟨T,X,ae⟩:=Ob I
     split at h
     ·rename_i l C;obtain⟨m,rfl⟩:=Int.eq_ofNat_of_zero_le (by omega:0<=n);simp only[Int.toNat_natCast]at B C;have J:P.underlying T=some (.pointer Gl.u8):=by
       rw[ae]at N;simp only[ptrTo]at N
       split at N
       ·rename_i e aw;simp at N;rw[<-N];exact aw
       ·simp at N
      exact⟨_,h,Xg q hc M ae Q aq o_ B o_ J Y C,by simpa using w,by simpa using(hS.1 w).1⟩
     ·exact h.elim
    ·exact h.elim
   ·exact h.elim
  ·exact h.elim
end
section
variable{P:dd}{ah:dp->Bool}{n:Nat}
theorem O1{o o':Obj}(h:pf o=some o'):pf o'=some o':=by
 unfold pf at h
 split at h
 ·simp at h;subst h;rfl
 ·rename_i k az ak b
  split at h
  ·simp at h
  ·split at h
   ·rename_i l a;simp at h;subst h;simp[pf,AK.gr,a]
   ·simp at h
 ·simp at h;subst h;rfl
 ·simp at h
theorem aGv{w:dq}{ad ai:Nat->Prop}{β:Bd}{H:al}(d:cB P w ad β H ai){b:Nat}{o o':Obj}(c:H[b]?=some o)(hf:pf o=some o'):
 ∃aG,ct P ai ad w β H aG w β (H.set b o')/\aG (β.au b):=by
 unfold pf at hf
 split at hf
 ·rename_i fz t;simp at hf;subst hf;obtain⟨cs,T,g,i,j,m⟩:=d.dj b _ c;have aO:cO β H β (H.set b (.box true (.p t))):=wX c (.inl ⟨_,_,_,rfl,rfl⟩);exact xd d c trivial (o':=.box true (.p t)) trivial (fun _ h=>h) (fun _ h=>by cases h) aO j.xY
   (fun aG hi l=>⟨cs,T,g,bC.mono hi (fun _ _=>rfl) aO _ _ (by simp[aF]) i,l,fun _=>trivial,m.2⟩) (by simp[Obj.refs,aF])
 ·rename_i k az ak f
  split at hf
  ·simp at hf
  ·rename_i hn
   split at hf
   case h_2=>simp at hf
   rename_i B y;simp at hf;subst hf;have q:=oC y;rcases d.dj b _ c with hold|⟨cs,T,s,rest,g,i,j,m,v,z,x,A⟩
   ·exact(hn hold).elim
   have r:¬dM .frozen f:=fun h=>by cases h.1
   have aO:cO β H β (H.set b (.arr .frozen az ak f)):=wX c (.inr (.inl ⟨_,_,_,_,_,rfl,rfl,hn,r⟩));exact xd d c hn (o':=.arr .frozen az ak f) r (fun _ h=>h) (fun _ h=>by cases h) aO x.xY
    (fun aG hi l=>.inr ⟨cs,T,s,rest,g,bX.mono hi (fun _ _=>rfl) aO _ _ _ (d.refs b _ c) i,j,m,v,(fun h=>by cases h),l,fun _ e n=>(by rw[q]at n;simp at n;obtain⟨a,_,rfl⟩:=n;trivial),fun h=>by cases h⟩)
    (by rw[q];exact kj _ _)
 ·rename_i fz f;simp at hf;subst hf;obtain⟨u,clock,g,i,j⟩:=d.dj b _ c;have aO:cO β H β (H.set b (.map true f)):=wX c (.inr (.inr ⟨_,_,_,rfl,rfl⟩));exact xd d c trivial (o':=.map true f) trivial (fun _ h=>h) (fun _ h=>by cases h) aO j.xY
   (fun aG hi l=>⟨u,clock,g,cT.mono hi (fun _ _=>rfl) _ _ i,l⟩) trivial
 ·simp at hf
theorem Nj{w:dq}{ai:Nat->Prop}{β:Bd}{H0:al}:∀(bs:List Nat){ar aM:List (Nat×Obj)}{H:al}{ad:Nat->Prop},nA H0 bs=some (ar,aM)->cB P w ad β H ai->
 (∀p∈ar,∃c,H[p.1]?=some c/\pf c=pf p.2)->∃aG,ct P ai ad w β H aG w β (bA H aM)/\∀b∈bs,aG (β.au b)
 |[],ar,aM,H,ad,h,a,_=>by
  simp[nA]at h;obtain⟨rfl,rfl⟩:=h;exact⟨ad,ct.refl a,s_⟩
 |b::bs,ar,aM,H,ad,h,a,hc=>by
  simp only[nA]at h
  split at h
  case h_2=>simp at h
  rename_i o q s r g
  split at h
  case h_2=>simp at h
  rename_i o' hf;simp at h;obtain⟨rfl,rfl⟩:=h;obtain⟨c,g1,g2⟩:=hc (b,o) s_;simp only at g1 g2;rw[hf]at g2;obtain⟨n,e,l⟩:=aGv a g1 g2;have i:b<H.length:=(hS.1 g1).1;obtain⟨f,q1,m⟩:=Nj bs g e.rel (by
   intro p j;obtain⟨k,k1,k2⟩:=hc p (by simp[j])
   by_cases d:b=p.1
   ·rw[<-d]at k1⊢;rw[g1]at k1;cases k1;refine⟨o',by rw[hT i],?_⟩;rw[<-k2,g2,O1 g2]
   ·exact⟨k,by rw[h4 d];exact k1,k2⟩)
  refine⟨f,by simpa only[bA]using e.trans q1,?_⟩;intro x hx;rcases hZ.1 hx with rfl|hx
  ·exact q1.cq _ l
  ·exact m x hx
theorem O2{H0:al}:∀(bs:List Nat){ar aM:List (Nat×Obj)},nA H0 bs=some (ar,aM)->(∀p∈ar,H0[p.1]?=some p.2)/\(∀p∈aM,p.1<H0.length/\p.2≠.hole)/\ar.map (·.1)=bs
 |[],ar,aM,h=>by
  simp[nA]at h;obtain⟨rfl,rfl⟩:=h;simp
 |b::bs,ar,aM,h=>by
  simp only[nA]at h
  split at h
  case h_2=>simp at h
  rename_i o f g d e
  split at h
  case h_2=>simp at h
  rename_i o' hf;simp at h;obtain⟨rfl,rfl⟩:=h;obtain⟨i1,i2,i3⟩:=O2 bs e;refine⟨?_,?_,by simp[i3]⟩
  ·intro p a;rcases hZ.1 a with rfl|a
   ·exact d
   ·exact i1 p a
  ·intro p a;rcases hZ.1 a with rfl|a
   ·refine⟨(hS.1 d).1,fun c=>?_⟩;simp only at c;have:=O1 hf;rw[c]at this;simp[pf]at this
   ·exact i2 p a
theorem avm{w:dq}{ad aG ai:Nat->Prop}{β:Bd}{H0 H:al}{a:AV}{pv:PV}{bs:List Nat}{v:dg}(d:pF H0 a=some (pv,bs))(ar:∀b∈bs,H[b]?=H0[b]?)(n:cB P w ad β H ai)(e:aB P w ad β H a v)
 (hi:∀k,ad k->aG k)(r:∀b∈bs,aG (β.au b)):aE P w aG pv v:=by
 cases a with
 |p t=>
  simp[pF]at d;obtain⟨rfl,rfl⟩:=d;simp only[aB]at e;exact aE.mono hi (fun _ _=>rfl) _ _ e
 |sl b az ak off len=>
  simp only[pF]at d
  split at d
  case h_2=>simp at d
  rename_i k R L g l
  split at d
  case isFalse=>simp at d
  rename_i E;obtain⟨rfl,rfl,Q⟩:=E
  split at d
  ·simp at d
  ·rename_i hn
   split at d
   case h_2=>simp at d
   rename_i y G;simp at d;obtain⟨rfl,rfl⟩:=d;have x:=oC G;have f:H[b]?=some (.arr k az ak g):=by rw[ar b s_];exact l
   have j:=r b s_;simp only[aB,bY,b7]at e;obtain⟨v1,v2,v3⟩:=e.2 k g f;rcases n.dj b _ f with hold|⟨cs,T,z,rest,i,h,q,C,M,D,N,O⟩
   ·exact(hn hold).elim
   rw[v3 hn];have I:Row P w aG β H ak g z:=bX.mono hi (fun _ _=>rfl) (cO.refl _ _) _ _ _ (n.refs b _ f) h;obtain⟨a,m,c,e1,e2,e3,e4,e5⟩:=lV I off len v1;rw[x,FK,oI]at e2;have u:((y.drop off).take len).length=len:=by
    have:g.length=y.length:=by rw[x];simp
    simp;omega
   simp only[aE];refine⟨β.au b,off*ak,β.cap b-off,ak,m,e2,fun _=>j,?_,?_,?_,none,.inl rfl,?_⟩
   ·rw[<-e3];exact n6 i (post:=c.flatten++rest) (by rw[q,e1];simp)
   ·intro hf;simp at hf;rw[u,D hf.1];omega
   ·rw[u];omega
   ·rw[u]
 |ptr b path=>
  simp only[pF]at d
  split at d
  case h_2=>simp at d
  rename_i fz t l
  split at d
  case h_2=>simp at d
  rename_i s hs;simp at d;obtain⟨rfl,rfl⟩:=d;have f:H[b]?=some (.box fz (.p t)):=by rw[ar b s_];exact l
  have j:=r b s_;simp only[aB,bY,b7]at e;obtain⟨_,K,J,o,rfl,F,e⟩:=e;obtain⟨rfl,rfl⟩:=e (.inl ⟨fz,_,f⟩);obtain⟨cs,T,i,h,q,C⟩:=n.dj b _ f;have B:bd P w aG t cs.toList:=by simp only[bC]at h;exact bd.mono hi (fun _ _=>rfl) _ _ h
  obtain⟨pre,xs,post,e1,e2,e3⟩:=CY B hs F;simp only[aE];refine⟨β.au b,J,xs,e3,j,?_,rfl⟩;rw[<-e2];exact n6 i e1
 |map b=>
  simp only[pF]at d
  split at d
  case h_2=>simp at d
  rename_i fz g l;simp at d;obtain⟨rfl,rfl⟩:=d;have f:H[b]?=some (.map fz g):=by rw[ar b s_];exact l
  have j:=r b s_;simp only[aB,bY,b7]at e;have e:=e.2.1 ⟨_,f,trivial⟩;obtain⟨A,clock,i,h,q⟩:=n.dj b _ f;simp only[aE];exact⟨β.au b,A,clock,j,i,cT.mono hi (fun _ _=>rfl) _ _ h,e⟩
 |cA=>simp[pF]at d
 |func=>simp[pF]at d
 |st=>simp[pF]at d
 |aC=>simp[pF]at d
theorem OK{w:dq}{ad aG ai:Nat->Prop}{β:Bd}{H0 H:al}:∀{l:List AV}{vs:List PV}{bs:List Nat}{d:List dg},rC H0 l=some (vs,bs)->(∀b∈bs,H[b]?=H0[b]?)->cB P w ad β H ai->bH P w ad β H l d->
 (∀k,ad k->aG k)->(∀b∈bs,aG (β.au b))->bG P w aG vs d
 |[],vs,bs,d,h,_,_,c,_,_=>by
  simp[rC]at h;obtain⟨rfl,rfl⟩:=h;simp only[bH]at c;simpa[bG]using c
 |a::l,vs,bs,d,h,ar,f,c,hi,e=>by
  simp only[rC]at h
  split at h
  case h_2=>simp at h
  rename_i v m o n g i;simp at h;obtain⟨rfl,rfl⟩:=h;simp only[bH]at c;obtain⟨y,j,rfl,k1,k2⟩:=c;simp only[bG];exact⟨y,j,rfl,avm g (fun b hx=>ar b (by simp[hx])) f k1 hi (fun b hx=>e b (by simp[hx])),OK i (fun b hx=>ar b (by simp[hx])) f k2 hi (fun b hx=>e b (by simp[hx]))⟩
def Act(P:dd)(n:Nat)(o:Oper)(s:St)(e:aZ):Prop:=
 ∀(fr:ei)(k:List Item)(cs:List ei)(a:Array Oper)(i:Nat)(r:List Nat)(b:List em)(ai ad:Nat->Prop)(β:Bd)(s':St)(t:Array dg)(w:dq),
  a[i]?=some o->hA o (yielded a t)=true->kr n o=true->dm P n ai ad β s' t w->(∀x∈o.op.operands,ev s'.env x=ev s.env x)->
  (∀p∈e.ar,s'.heap[p.1]?=some p.2)->(∀j,j<e.aY.length->s'.heap[s.heap.length+j]?=some .hole)->
  ∃aG aN c w',eM P (lone (bJ fr t b (.inRegion a (i::r)::k)) cs w) (lone (bJ fr c b (.inRegion a r::k)) cs w')/\
   dm P n ai aG aN ⟨put o.dst e.v s'.env,bA s'.heap (e.aM++newAt s.heap.length e.aY)⟩ c w'/\∀N,eU N ai ad w β s'.heap ai aG w' aN (bA s'.heap (e.aM++newAt s.heap.length e.aY))
theorem Yn{o:Oper}{K:aZ->Prop}{s:St}(h:ln P ah o s K)(c:Call):o.op≠.defer c:=by
 intro hc;unfold ln at h;rw[hc]at h;simp[gJ,hc]at h
theorem Sv{e e':Env}{l:List da}(h:∀x∈l,ev e' x=ev e x):l.map (ev e')=l.map (ev e):=js h
theorem P5{o:Oper}{f:da}{G:Array da}{aj:Array db}{g:dp}{fi ca:List AV}{K:aZ->Prop}{s:St}
 (V:o.op=.call {callee:=.value f,args:=G,argTypes:=aj})
 (hf:(ev s.env f=.func g fi ca)\/(∃a b,ev s.env f=.p (.func g a b)/\fi=a.map .p/\ca=b.map .p))
 (h:jn P g (fi++G.toList.map (ev s.env)++ca) s.heap K):
 ∃e,K e/\(∀p∈e.ar,s.heap[p.1]?=some p.2)/\(∀p∈e.aM,p.1<s.heap.length/\p.2≠.hole)/\Act P n o s e:=by
 have O:∀c,o.op≠.defer c:=fun c hc=>by rw[V]at hc;cases hc
 have aa:f∈o.op.operands/\∀x∈G.toList,x∈o.op.operands:=by
  rw[V];simp[hj,gj];exact fun x hx=>.inr hx
 have L:∀{ai ad:Nat->Prop}{β:Bd}{s':St}{t:Array dg}{w:dq},dm P n ai ad β s' t w->(∀x∈o.op.operands,ev s'.env x=ev s.env x)->
  ∃m:List dg,bH P w ad β s'.heap (fi++G.toList.map (ev s.env)++ca) m/\ba (aL s'.heap) (fi++G.toList.map (ev s.env)++ca)/\(dl (gK t) o).run P w=(callFunc g m.toArray).run P w:=by
  intro ai ad β s' t w d A;have H:=rr d f;rw[A f aa.1]at H;obtain⟨F,cv,aw,av,ap,aA,az⟩:∃F cv:List dg,gK t f=.func (.func g) F.toArray cv.toArray/\bH P w ad β s'.heap fi F/\bH P w ad β s'.heap ca cv/\ba (aL s'.heap) fi/\ba (aL s'.heap) ca:=by
   rcases hf with hf|⟨a,b,hf,rfl,rfl⟩
   ·rw[hf]at H;simp only[aB,aF]at H;obtain⟨⟨F,cv,y,z,D⟩,R,an⟩:=H;exact⟨F,cv,D,y,z,R,an⟩
   ·rw[hf]at H;simp only[aB,aE]at H;obtain⟨⟨F,cv,y,z,D⟩,_⟩:=H;exact⟨F,cv,D,lG.2 y,lG.2 z,kj _ _,kj _ _⟩
  obtain⟨X,Y⟩:=zN d G.toList;rw[Sv (fun x hx=>A x (aa.2 x hx))]at X Y;refine⟨F++G.toList.map (gK t)++cv,sB (sB av X) ap,lU (lU aA Y) az,?_⟩;simp only[dl,V,resolve,aw,Deferred.ofValue,hG,hH,hE,invoke];congr 2;simp
 have ag:∀(fr:ei)(k:List Item)(cs:List ei)(l:Array Oper)(i:Nat)(r:List Nat)(u:List em)(ai ad E:Nat->Prop)(β:Bd)(s':St)(t:Array dg)(w:dq)(H1:al)(m:List dg)(vs:List PV)(v:PV),
  l[i]?=some o->hA o (yielded l t)=true->kr n o=true->dm P n ai ad β s' t w->(dl (gK t) o).run P w=(callFunc g m.toArray).run P w->
  ct P ai ad w β s'.heap E w β H1->bG P w E vs m->aq P g vs v->
  ∃aG aN ah w',eM P (lone (bJ fr t u (.inRegion l (i::r)::k)) cs w) (lone (bJ fr ah u (.inRegion l r::k)) cs w')/\
   dm P n ai aG aN ⟨put o.dst (.p v) s'.env,H1⟩ ah w'/\∀N,eU N ai ad w β s'.heap ai aG w' aN H1:=by
  intro fr k cs l i r u ai ad E β s' t w H1 m vs v q C B d M j ae J;rcases J with⟨au,J⟩|J
  ·rw[au]at M;obtain⟨e,w',ak,⟨Q,aG,T,g1,g2,g3,g4,g5,am,g6⟩,aO,ax,U⟩:=J w E _ j.rel.cq j.rel.lr ae (bJ fr t u (.inRegion l (i::r)::k)::cs);subst T;have ac:=j.trans (j.rel.later g1 g2 g3 g4 g5 am);refine⟨aG,β,_,w',?_,d.put B ac (by simpa[aB]using g6) (by simp[aF]),fun _=>ac.gq⟩;rw[<-qO q];exact(hK (zA q C O M)).trans (hL aO (.one (eo U)))
  ·obtain⟨Q,y,z⟩:=J w E _ ae;rw[y]at M;exact⟨E,β,_,w,.one (w8 q C O M (.inl rfl)),d.put B j (by simpa[aB]using z) (by simp[aF]),fun _=>j.gq⟩
 rcases h with⟨vs,v,y,z,D⟩|⟨vs,bs,ar,aM,v,y,z,D,R⟩|⟨e,W,ab,S⟩|⟨ar,v,ao,ay,S⟩
 ·refine⟨_,D,s_,s_,?_⟩;intro fr k cs l i r u ai ad β s' t w q C B d A _ _;obtain⟨m,c1,c2,c3⟩:=L d A;rw[y]at c1;simp only[newAt,hX,bA];exact ag fr k cs l i r u ai ad ad β s' t w s'.heap m vs v q C B d c3 (ct.refl d.heap) (lG.1 c1) z
 ·obtain⟨i1,i2,i3⟩:=O2 bs z;refine⟨_,R,i1,i2,?_⟩;intro fr k cs l i r u ai ad β s' t w q C B d A I _;obtain⟨m,c1,c2,c3⟩:=L d A;obtain⟨E,af,aC⟩:=Nj bs z d.heap (fun p j=>⟨p.2,I p j,rfl⟩);simp only[newAt,hX];refine ag fr k cs l i r u ai ad E β s' t w _ m vs v q C B d c3 af (OK y ?_ d.heap c1 af.cq aC) D;intro b Z;rw[<-i3]at Z;obtain⟨p,j,rfl⟩:=kf.1 Z;rw[I p j,i1 p j]
 ·refine⟨_,S,ab.1,ab.2,?_⟩;intro fr k cs l i r u ai ad β s' t w q C B d A I aY;obtain⟨m,c1,c2,c3⟩:=L d A;rw[W.1]at c3;obtain⟨x,w',ak,⟨Q,aN,aG,T,g1,g2,g3⟩,aO,ax,U⟩:=W.2 s'.heap w ad ai β _ d.heap c1 c2 I aY (bJ fr t u (.inRegion l (i::r)::k)::cs);subst T;refine⟨aG,aN,_,w',?_,d.put B g1 g2 g3,fun _=>g1.gq⟩;rw[<-qO q];exact(hK (zA q C O c3)).trans (hL aO (.one (eo U)))
 ·refine⟨_,S,ay,s_,?_⟩;intro fr k cs l i r u ai ad β s' t w q C B d A I aY;obtain⟨m,c1,c2,c3⟩:=L d A;obtain⟨Q,y,D⟩:=ao s'.heap w ad ai β _ d.heap c1 c2 I;rw[y]at c3;have j:=ct.refl d.heap;simp only[newAt,hX,bA];exact⟨ad,β,_,w,.one (w8 q C O c3 (.inl rfl)),d.put B j (by simpa[aB]using D) (by simp[aF]),fun _=>j.gq⟩
theorem Z3{o:Oper}{f:da}{a:Array da}{y:Array db}{b:Nat}{e:aZ}{s:St}
 (j:o.op=.call {callee:=.value f,args:=a,argTypes:=y})(hf:ev s.env f=.map b)(hY:rD P b (a.toList.map (ev s.env)) s.heap.length e):Act P n o s e:=by
 have G:∀c,o.op≠.defer c:=fun c hc=>by rw[j]at hc;cases hc
 have u:f∈o.op.operands/\∀x∈a.toList,x∈o.op.operands:=by
  rw[j];simp[hj,gj];exact fun x hx=>.inr hx
 intro fr k cs I i r z ai ad β s' t w v H C d m E aY;have h:=(rr d f).1;rw[m f u.1,hf]at h;simp only[aB,bY,b7]at h;obtain⟨l,p⟩:=zN d a.toList;rw[Sv (fun x hx=>m x (u.2 x hx))]at l p;obtain⟨F,g,tmps,assign,body,A,B⟩:=hY s'.heap w ad ai β _ d.heap l p E aY;have D:=h.2.2 F;have q:(dl (gK t) o).run P w=(Instr.yield (β.au b) (a.toList.map (gK t)).toArray).run P w:=by
  simp only[dl,j,resolve,D,Deferred.ofValue,hG,hH,hE,invoke];congr 2;exact b2 s_
 rw[A]at q;obtain⟨cv,w',aN,aG,g1,g2,g3,g4⟩:=B (bJ fr t z (.inRegion I (i::r)::k)) cs;refine⟨aG,aN,_,w',?_,d.put C g2 g3 g4,fun _=>g2.gq⟩;rw[<-qO v];exact(hK (NT v H G q)).trans g1
theorem auF(m:nX P ah){o:Oper}{K:aZ->Prop}{s:St}(h:ln P ah o s K):
 ∃e,K e/\(∀p∈e.ar,s.heap[p.1]?=some p.2)/\(∀p∈e.aM,p.1<s.heap.length/\p.2≠.hole)/\Act P n o s e:=by
 have E:=Yn h;have q:gJ P ah o (ev s.env) s.heap K->∃e,K e/\(∀p∈e.ar,s.heap[p.1]?=some p.2)/\(∀p∈e.aM,p.1<s.heap.length/\p.2≠.hole)/\Act P n o s e:=by
  intro h;obtain⟨e,a,hs,ar,aM⟩:=m o _ _ _ (fun v=>rfl) h;refine⟨e,a,ar,aM,?_⟩;intro fr k cs J i r I ai ad β s' t w F G C d B D aY;obtain⟨nx,cv,w',aN,aG,u,y,j,z,A⟩:=hs s'.heap w ad ai β (gK t) d.heap (fun x hx=>by rw[<-B x hx];exact rr d x) D aY;exact⟨aG,aN,_,w',.one (w8 F G E u y),d.put C j z A,fun _=>j.gq⟩
 unfold ln at h
 split at h
 ·rename_i f args H c
  split at h
  ·rename_i g fi ca hf;exact P5 c (.inr ⟨fi,ca,hf,rfl,rfl⟩) h
  ·rename_i g fi ca hf;exact P5 c (.inl hf) h
  ·rename_i b hf;obtain⟨e,hY,l,a⟩:=h;exact⟨e,a,l.1,l.2,Z3 c hf hY⟩
  ·exact h.elim
 ·exact q h
end
section
variable{P:dd}{ah:dp->Bool}{n:Nat}
def looks(a:Array Oper)(o:Oper):List Tmp:=
 (o.op.operands.toList.filterMap fun x=>match x with
  | .tmp t=>some t
  |_=>none)++(match o.guard with
  |some (j,_)=>(match(a[j]?).bind (·.dst)with
   |some d=>[d]
   |none=>[])
  |none=>[])
def uH(c:Array Oper)(a b:Oper):Bool:=
 (match a.dst with
  |some d=>(looks c b).contains d||b.dst==some d
  |none=>false)||
 (match b.dst with
  |some d=>(looks c a).contains d
  |none=>false)
def fit(_:Nat)(a:Array Oper):Bool:=
 (i4 a.size).all fun j=>match a[j]? with
  |some o=>o.after.toList.all (fun e=>!hB .any e||decide (e.on<j))&&
   (i4 j).all (fun i=>match a[i]? with
    |some u=>!uH a u o||reach a a.size i j
    |none=>true)
  |none=>true
structure H9(P:dd)(n:Nat)(ops:Array Oper)(o:Oper)(s:St)(e:aZ):Prop where
 ar:∀p∈e.ar,s.heap[p.1]?=some p.2
 aM:∀p∈e.aM,p.1<s.heap.length
 act:(∀(t:Array dg)(s':St)(ai ad:Nat->Prop)(β:Bd)(w:dq),dm P n ai ad β s' t w->(∀x∈looks ops o,aQ s'.env x=aQ s.env x)->hA o (yielded ops t)=true)/\Act P n o s e\/
  (∀(t:Array dg)(s':St)(ai ad:Nat->Prop)(β:Bd)(w:dq),dm P n ai ad β s' t w->(∀x∈looks ops o,aQ s'.env x=aQ s.env x)->hA o (yielded ops t)=false)/\e={v:=.p (.aC [])}
inductive Tr(P:dd)(n:Nat)(ops:Array Oper):List Oper->Nat->St->List (St×aZ)->St->Prop
 |nil (i:Nat) (s:St):Tr P n ops [] i s [] s
 |cons {o:Oper} {r:List Oper} {i:Nat} {s s':St} {e:aZ} {es:List (St×aZ)}:H9 P n ops o s e->Tr P n ops r (i+1) (e.app o.dst s) es s'->Tr P n ops (o::r) i s ((s,e)::es) s'
def sQ(i:Nat):List (St×aZ)->List Touch->List Touch
 |[],acc=>acc
 |(s,e)::r,acc=>sQ (i+1) r (ij i s.heap.length e acc)
theorem FJ{a:Array Oper}{o:Oper}{j:Nat}{f:Bool}(c:o.guard=some (j,f)){e e':Env}(h:∀x∈looks a o,aQ e' x=aQ e x):guardOf a j e'=guardOf a j e:=by
 unfold guardOf;cases b:(a[j]?).bind (·.dst)with
 |none=>rfl
 |some d=>
  simp only;exact h d (by simp[looks,c,b])
theorem Pq(B:nX P ah){a:Array Oper}(q:∀o∈a.toList,kr n o=true):∀(l:List Oper)(i:Nat)(d:List Touch)(s:St){K:St->Prop},(∀o∈l,o∈a.toList)->iw P ah a l i d K s->
 ∃c s',Tr P n a l i s c s'/\K s'/\jL a (sQ i c d)=true
 |[],i,d,s,K,_,h=>⟨[],s,.nil i s,h.2,h.1⟩
 |o::l,i,d,s,K,F,h=>by
  have C:=fun d s(h:iw P ah a l (i+1) d K s)=>Pq B q l (i+1) d s (fun o G=>F o (by simp[G])) h
  have skip:iw P ah a l (i+1) d K ⟨put o.dst (.p (.aC [])) s.env,s.heap⟩->(∀(t:Array dg)(s':St)(ai ad:Nat->Prop)(β:Bd)(w:dq),dm P n ai ad β s' t w->(∀x∈looks a o,aQ s'.env x=aQ s.env x)->hA o (yielded a t)=false)->
   ∃c s',Tr P n a (o::l) i s c s'/\K s'/\jL a (sQ i c d)=true:=by
   intro hk A;obtain⟨c,s',r,u,y⟩:=C _ _ hk;refine⟨(s,{v:=.p (.aC [])})::c,s',.cons ⟨s_,s_,.inr ⟨A,rfl⟩⟩ ?_,u,by simpa[sQ,ij]using y⟩;simpa[aZ.app,bA]using r
  have go:ln P ah o s (fun e=>iw P ah a l (i+1) (ij i s.heap.length e d) K (e.app o.dst s))->(∀(t:Array dg)(s':St)(ai ad:Nat->Prop)(β:Bd)(w:dq),dm P n ai ad β s' t w->(∀x∈looks a o,aQ s'.env x=aQ s.env x)->hA o (yielded a t)=true)->
   ∃c s',Tr P n a (o::l) i s c s'/\K s'/\jL a (sQ i c d)=true:=by
   intro hk A;obtain⟨e,D,ar,aM,E⟩:=auF (n:=n) B hk;obtain⟨c,s',r,u,y⟩:=C _ _ D;exact⟨(s,e)::c,s',.cons ⟨ar,fun p H=>(aM p H).1,.inl ⟨A,E⟩⟩ r,u,by simpa[sQ]using y⟩
  simp only[iw]at h
  split at h
  ·rename_i f;exact go h (fun _ _ _ _ _ _ _ _=>by simp[hA,f])
  ·rename_i j I f
   split at h
   ·rename_i b m
    split at h
    ·rename_i z;refine go h (fun t s' ai ad β w k g=>?_);obtain⟨g1,g2⟩:=Ct k q j;rw[FJ f g]at g1;simp[hA,f,g1 _ m,z]
    ·rename_i z;refine skip h (fun t s' ai ad β w k g=>?_);obtain⟨g1,g2⟩:=Ct k q j;rw[FJ f g]at g1;simp[hA,f,g1 _ m,z]
   ·rename_i m;refine skip h (fun t s' ai ad β w k g=>?_);obtain⟨g1,g2⟩:=Ct k q j;rw[FJ f g]at g2;simp[hA,f,g2 m]
   ·exact h.elim
def AD(a:Array Oper)(D:Nat->Prop):Prop:=∀j o,a[j]?=some o->D j->∀e∈o.after,hB .any e=true->D e.on
theorem FX{c:Array Oper}{D:Nat->Prop}(hc:AD c D):∀(f i j:Nat),reach c f i j=true->(∀o,c[j]?=some o->∀e∈o.after,hB .any e=true->D e.on)->D i
 |0,_,_,h,_=>by simp[reach]at h
 |f+1,i,j,h,d=>by
  simp only[reach]at h
  split at h
  case h_2=>simp at h
  rename_i o g;simp only[cy,ip,cx,beq_iff_eq,decide_eq_true_eq]at h;rcases h with⟨e,b,a,rfl⟩|⟨e,b,⟨a,_⟩,k⟩
  ·exact d o g e (by simpa using b) a
  ·have m:=d o g e (by simpa using b) a;exact FX hc f i e.on k (fun o' p e' n l=>hc _ o' p m e' n l)
end
section
variable{P:dd}{ah:dp->Bool}{n:Nat}
theorem xl(a:Nat)(l:List Obj):(newAt a l).map (·.1)=rj a l:=by
 induction l generalizing a with
 |nil=>rfl
 |cons o l b=>simp[newAt,rj,b]
theorem MO{a b:Nat}{l:List Obj}:b∈rj a l↔a<=b/\b<a+l.length:=by
 induction l generalizing a with
 |nil=>simp[rj]
 |cons o l c=>simp only[rj,hZ,c,List.length_cons];omega
theorem CC{l:List (Nat×Obj)}{b:Nat}(h:b∉l.map (·.1)):∀H:al,(bA H l)[b]?=H[b]?:=by
 induction l with
 |nil=>intro H;rfl
 |cons p l a=>
  obtain⟨c,o⟩:=p;intro H;simp only[hW,hZ,not_or]at h;simp only[bA];rw[a h.2,h4 (kP h.1)]
theorem ZC{l:List (Nat×Obj)}{b:Nat}(h:b∈l.map (·.1)):∀H H':al,H.length=H'.length->(bA H l)[b]?=(bA H' l)[b]?:=by
 induction l with
 |nil=>simp at h
 |cons p l f=>
  obtain⟨c,o⟩:=p;intro H H' d;simp only[bA]
  by_cases a:b∈l.map (·.1)
  ·exact f a _ _ (by simp[d])
  ·rw[CC a,CC a];simp only[hW,hZ]at h;have:b=c:=h.resolve_right a;subst this
   by_cases e:b<H.length
   ·rw[hT e,hT o_]
   ·rw[i8 (by simp;omega),i8 (by simp;omega)]
def dL(es:List (St×aZ))(s':St)(k:Nat):St:=match es[k]? with
 |some (s,_)=>s
 |none=>s'
def gL(es:List (St×aZ))(k:Nat):aZ:=match es[k]? with
 |some (_,e)=>e
 |none=>{v:=.p .undef}
theorem Tr.at{a:Array Oper}:∀{l:List Oper}{i:Nat}{s s':St}{es:List (St×aZ)},Tr P n a l i s es s'->es.length=l.length/\dL es s' 0=s/\
 ∀k o,l[k]?=some o->H9 P n a o (dL es s' k) (gL es k)/\dL es s' (k+1)=(gL es k).app o.dst (dL es s' k)
 |_,_,_,_,_,.nil i s=>⟨rfl,rfl,fun k o h=>by simp at h⟩
 |_,_,_,_,_,.cons (o:=o) (r:=r) (i:=i) (s:=s) (s':=s') (e:=e) (es:=es) hi d=>by
  obtain⟨h1,b,c⟩:=d.at;refine⟨by simp[h1],rfl,fun k o' hk=>?_⟩;cases k with
  |zero=>
   simp at hk;subst hk;refine⟨by simpa[dL,gL]using hi,?_⟩;have:dL ((s,e)::es) s' (0+1)=dL es s' 0:=by simp[dL]
   rw[this,b];simp[dL,gL]
  |succ k=>
   have e1:∀m,dL ((s,e)::es) s' (m+1)=dL es s' m:=fun m=>by simp[dL]
   have e2:gL ((s,e)::es) (k+1)=gL es k:=by simp[gL]
   rw[e1,e1,e2];exact c k o' (by simpa using hk)
theorem Yx(u:Touch)(i:Nat):kZ u ⟨i,[],[]⟩=false:=by
 simp[kZ]
theorem Yd(i b:Nat)(e:aZ)(a:List Touch):(ij i b e a=a/\jd i b e=⟨i,[],[]⟩)\/ij i b e a=jd i b e::a:=by
 unfold ij
 split
 ·rename_i c d f;exact .inl ⟨rfl,by simp[jd,c,d,f,rj]⟩
 ·exact .inr rfl
theorem NR{c:Array Oper}:∀(g:List (St×aZ))(i:Nat)(d:List Touch),jL c (sQ i g d)=true->jL c d=true/\
 (∀u∈d,∀b s e,g[b]?=some (s,e)->kZ u (jd (i+b) s.heap.length e)=true->reach c c.size u.i (i+b)=true)/\
 (∀a b s e f e2,a<b->g[a]?=some (s,e)->g[b]?=some (f,e2)->kZ (jd (i+a) s.heap.length e) (jd (i+b) f.heap.length e2)=true->reach c c.size (i+a) (i+b)=true)
 |[],i,d,h=>⟨h,s_,s_⟩
 |(s,e)::g,i,d,h=>by
  simp only[sQ]at h;obtain⟨j,m,r⟩:=NR g (i+1) _ h
  have key:jL c d=true/\(∀u∈d,kZ u (jd i s.heap.length e)=true->reach c c.size u.i i=true)/\(∀u∈d,∀b s e,g[b]?=some (s,e)->kZ u (jd (i+1+b) s.heap.length e)=true->reach c c.size u.i (i+1+b)=true)/\
   (∀b f e2,g[b]?=some (f,e2)->kZ (jd i s.heap.length e) (jd (i+1+b) f.heap.length e2)=true->reach c c.size i (i+1+b)=true):=by
   rcases Yd i s.heap.length e d with⟨o,q⟩|o
   ·rw[o]at j m;refine⟨j,fun u _ hc=>?_,m,fun b f e2 _ hc=>?_⟩
    ·rw[q,Yx]at hc;cases hc
    ·rw[q]at hc;simp[kZ]at hc
   ·rw[o]at j m;simp only[jL,cx,h9]at j;refine⟨j.2,fun u l hc=>?_,fun u l=>m u (by simp[l]),m _ s_⟩;have:=j.1 u l;rw[hc]at this;exact(by simpa using this:reach c c.size u.i (jd i s.heap.length e).i=true)
  obtain⟨k1,k2,k3,k4⟩:=key;refine⟨k1,?_,?_⟩
  ·intro u l b p e1 k hc;cases b with
   |zero=>simp at k;obtain⟨rfl,rfl⟩:=k;exact k2 u l hc
   |succ b=>
    have:=k3 u l b p e1 (by simpa using k);rw[show i+(b+1)=i+1+b by omega]at hc⊢;exact this hc
  ·intro a b p e1 f e2 t n k hc;cases b with
   |zero=>omega
   |succ b=>
    rw[show i+(b+1)=i+1+b by omega]at hc⊢;cases a with
    |zero=>
     simp at n;obtain⟨rfl,rfl⟩:=n;exact k4 b f e2 (by simpa using k) hc
    |succ a=>
     rw[show i+(a+1)=i+1+a by omega]at hc⊢;exact r a b p e1 f e2 o_ (by simpa using n) (by simpa using k) hc
end
section
variable{P:dd}{ah:dp->Bool}{n:Nat}
def hx(N:Nat)(s:St):al:=s.heap++hV (N-s.heap.length) .hole
def yQ(a:Nat)(e:aZ):List Nat:=(e.aM++newAt a e.aY).map (·.1)
theorem aGU{N:Nat}{s:St}{e:aZ}{o:Oper}(aM:∀p∈e.aM,p.1<s.heap.length)(d:(e.app o.dst s).heap.length<=N):hx N (e.app o.dst s)=bA (hx N s) (e.aM++newAt s.heap.length e.aY):=by
 have b:(e.app o.dst s).heap=bA s.heap e.aM++e.aY:=rfl;have f:(e.app o.dst s).heap.length=s.heap.length+e.aY.length:=by rw[b];simp[sv]
 unfold hx;rw[b];have c:N-s.heap.length=e.aY.length+(N-(s.heap.length+e.aY.length)):=o_
 rw[c,<-List.replicate_append_replicate,<-ii,Ci _ _ _ (by
  intro p a;rcases i7.1 a with a|a
  ·have:=aM p a;simp;omega
  ·have:p.1∈(newAt s.heap.length e.aY).map (·.1):=j7 a
   rw[xl,MO]at this;simp;omega)]
 rw[zw,Ci _ _ _ aM];have:=FW (bA s.heap e.aM) e.aY;rw[sv]at this;rw[this];congr 2;simp[sv]
section sched
variable{ops:Array Oper}{es:List (St×aZ)}{s0 s':St}
structure kt(P:dd)(n:Nat)(ops:Array Oper)(es:List (St×aZ))(s':St):Prop where
 len:es.length=ops.size
 at_:∀k o,ops[k]?=some o->H9 P n ops o (dL es s' k) (gL es k)/\dL es s' (k+1)=(gL es k).app o.dst (dL es s' k)
 dst:∀o∈ops.toList,kr n o=true
 lower:∀j o,ops[j]?=some o->∀e∈o.after,hB .any e=true->e.on<j
 tmps:∀i j u o,i<j->ops[i]?=some u->ops[j]?=some o->uH ops u o=true->reach ops ops.size i j=true
 heap:∀i j,i<j->j<ops.size->kZ (jd i (dL es s' i).heap.length (gL es i)) (jd j (dL es s' j).heap.length (gL es j))=true->reach ops ops.size i j=true
def wr(a:List (St×aZ))(s':St)(i:Nat):List Nat:=yQ (dL a s' i).heap.length (gL a i)
structure At(ops:Array Oper)(es:List (St×aZ))(s':St)(D:Nat->Prop)(s:St):Prop where
 tmp:∀x,∃k,k<=ops.size/\aQ s.env x=aQ (dL es s' k).env x/\∀i o,ops[i]?=some o->o.dst=some x->(D i↔i<k)
 len:s.heap.length=s'.heap.length
 heap:∀b,∃k,k<=ops.size/\s.heap[b]?=(hx s'.heap.length (dL es s' k))[b]?/\∀i,i<ops.size->b∈wr es s' i->(D i↔i<k)
variable(h:kt P n ops es s')
include h
theorem kt.mono:∀{k m:Nat},k<=m->m<=ops.size->(dL es s' k).heap.length<=(dL es s' m).heap.length:=by
 intro k m e f
 induction m with
 |zero=>
  obtain rfl:k=0:=o_
  exact kk _
 |succ m c=>
  by_cases hk:k=m+1
  ·subst hk;exact kk _
  ·have d:=c o_ o_;have b:ops[m]?=some ops[m]:=b1 o_;obtain⟨_,a⟩:=h.at_ m _ b;rw[a];simp only[aZ.app,hU,sv];omega
theorem kt.last:dL es s' ops.size=s':=by
 have:es[ops.size]?=none:=i8 (by rw[h.len];exact kk _);simp[dL,this]
theorem kt.A8{k:Nat}(hk:k<=ops.size):(dL es s' k).heap.length<=s'.heap.length:=by
 have:=h.mono hk (kk _)
 rwa [h.last]at this
theorem kt.jk{k:Nat}(hk:k<ops.size):hx s'.heap.length (dL es s' (k+1))=bA (hx s'.heap.length (dL es s' k)) ((gL es k).aM++newAt (dL es s' k).heap.length (gL es k).aY):=by
 have c:ops[k]?=some ops[k]:=b1 hk;obtain⟨h1,b⟩:=h.at_ k _ c;have a:=h.A8 (k:=k+1) hk;rw[b]at a⊢;exact aGU h1.aM a
theorem aGT{k:Nat}(hk:k<=ops.size):(hx s'.heap.length (dL es s' k)).length=s'.heap.length:=by
 have:=h.A8 hk;simp[hx];omega
theorem kt.Pr{x:Nat}:∀{k m:Nat},k<=m->m<=ops.size->(∀i o,k<=i->i<m->ops[i]?=some o->o.dst≠some x)->aQ (dL es s' m).env x=aQ (dL es s' k).env x:=by
 intro k m j
 induction m with
 |zero=>
  intro _ _;obtain rfl:k=0:=o_
  rfl
 |succ m g=>
  intro l d
  by_cases hk:k=m+1
  ·subst hk;rfl
  ·have e:=g o_ o_ (fun i o a b=>d i o a o_);have c:ops[m]?=some ops[m]:=b1 o_;obtain⟨_,f⟩:=h.at_ m _ c;rw[f];simp only[aZ.app,zJ];rw[if_neg (d m _ o_ o_ c)];exact e
theorem kt.OX{b:Nat}:∀{k m:Nat},k<=m->m<=ops.size->(∀i,k<=i->i<m->b∉wr es s' i)->(hx s'.heap.length (dL es s' m))[b]?=(hx s'.heap.length (dL es s' k))[b]?:=by
 intro k m f
 induction m with
 |zero=>
  intro _ _;obtain rfl:k=0:=o_
  rfl
 |succ m e=>
  intro g c
  by_cases hk:k=m+1
  ·subst hk;rfl
  ·have d:=e o_ o_ (fun i a b=>c i a o_);rw[h.jk o_,CC (c m o_ o_)];exact d
theorem kt.QI{x:Nat}{k m:Nat}(hk:k<=ops.size)(g:m<=ops.size)(f:∀i o,ops[i]?=some o->o.dst=some x->(i<k↔i<m)):aQ (dL es s' m).env x=aQ (dL es s' k).env x:=by
 rcases kO k m with d|d
 ·exact h.Pr d g fun i o a b e c=>by have:=f i o e c;omega
 ·exact(h.Pr d hk fun i o a b e c=>by have:=f i o e c;omega).symm
theorem kt.Qt{b:Nat}{k m:Nat}(hk:k<=ops.size)(g:m<=ops.size)(f:∀i,i<ops.size->b∈wr es s' i->(i<k↔i<m)):(hx s'.heap.length (dL es s' m))[b]?=(hx s'.heap.length (dL es s' k))[b]?:=by
 rcases kO k m with e|e
 ·exact h.OX e g fun i a c d=>by have:=f i o_ d;omega
 ·exact(h.OX e hk fun i a c d=>by have:=f i o_ d;omega).symm
variable{D:Nat->Prop}(hc:AD ops D)
include hc
theorem kt.order{i:Nat}{o:Oper}(k:ops[i]?=some o)(h:¬D i)(l:∀e∈o.after,hB .any e=true->D e.on):
 (∀j,j<i->reach ops ops.size j i=true->D j)/\(∀j,j<ops.size->i<j->reach ops ops.size i j=true->¬D j):=by
 constructor
 ·intro j g b;exact FX hc _ _ _ b (fun o' a=>by rw[k]at a;cases a;exact l)
 ·intro j m g b d;exact h (FX hc _ _ _ b (fun o' a e f c=>hc j o' a d e f c))
theorem kt.reads{i:Nat}{o:Oper}(l:ops[i]?=some o)(q:¬D i)(y:∀e∈o.after,hB .any e=true->D e.on){s:St}(t:At ops es s' D s):
 (∀x∈looks ops o,aQ s.env x=aQ (dL es s' i).env x)/\(∀b,b∈(gL es i).ar.map (·.1)\/b∈wr es s' i->s.heap[b]?=(hx s'.heap.length (dL es s' i))[b]?):=by
 obtain⟨v,w⟩:=h.order hc l q y;have hi:i<ops.size:=(b0.1 l).1;constructor
 ·intro x hx;obtain⟨k,k1,k2,k3⟩:=t.tmp x;rw[k2];refine h.QI o_ k1 fun j u m p=>?_;have g:j<ops.size:=(b0.1 m).1;rw[<-k3 j u m p];constructor
  ·intro a;refine v j a (h.tmps j i u o a m l ?_);simp[uH,p,hx]
  ·intro f;rcases ko j i with a|rfl|a
   ·exact a
   ·exact(q f).elim
   ·exact(w j g a (h.tmps i j o u a l m (by simp[uH,p,hx])) f).elim
 ·intro b c;obtain⟨k,k1,k2,k3⟩:=t.heap b;rw[k2];refine h.Qt o_ k1 fun j g n=>?_;rw[<-k3 j g n];have r:b∈(jd j (dL es s' j).heap.length (gL es j)).wr:=by
   unfold wr yQ at n;rw[h6,xl]at n;exact n
  have d:b∈(jd i (dL es s' i).heap.length (gL es i)).rd\/b∈(jd i (dL es s' i).heap.length (gL es i)).wr:=by
   rcases c with c|c
   ·exact .inl c
   ·unfold wr yQ at c;rw[h6,xl]at c;exact .inr c
  constructor
  ·intro a;refine v j a (h.heap j i a hi ?_);simp only[kZ,cy,ip,ik];exact .inl ⟨b,r,d⟩
  ·intro f;rcases ko j i with a|rfl|a
   ·exact a
   ·exact(q f).elim
   ·refine(w j g a (h.heap i j a g ?_) f).elim;simp only[kZ,cy,ip,ik];rcases d with d|d
    ·exact .inr ⟨b,d,r⟩
    ·exact .inl ⟨b,d,.inr r⟩
theorem kt.next{i:Nat}{o:Oper}(l:ops[i]?=some o)(z:¬D i)(A:∀e∈o.after,hB .any e=true->D e.on){s:St}(p:At ops es s' D s):
 At ops es s' (fun j=>D j\/j=i) ⟨put o.dst (gL es i).v s.env,bA s.heap ((gL es i).aM++newAt (dL es s' i).heap.length (gL es i).aY)⟩:=by
 obtain⟨w,y⟩:=h.order hc l z A;have hi:i<ops.size:=(b0.1 l).1;obtain⟨B,jk⟩:=h.at_ i o l;refine⟨fun x=>?_,by simp only[sv];exact p.len,fun b=>?_⟩
 ·by_cases hx:o.dst=some x
  ·refine⟨i+1,hi,?_,fun j u d n=>?_⟩
   ·rw[jk];simp[aZ.app,zJ,hx]
   ·have g:j<ops.size:=(b0.1 d).1;constructor
    ·rintro(c|rfl)
     ·rcases ko j i with a|rfl|a
      ·omega
      ·omega
      ·exact(y j g a (h.tmps i j o u a l d (by simp[uH,n,hx])) c).elim
     ·omega
    ·intro a
     by_cases q:j=i
     ·exact .inr q
     ·exact .inl (w j o_ (h.tmps j i u o o_ d l (by simp[uH,n,hx])))
  ·obtain⟨k,k1,k2,k3⟩:=p.tmp x;refine⟨k,k1,?_,fun j u d n=>?_⟩
   ·simp only[zJ];rw[if_neg hx];exact k2
   ·rw[<-k3 j u d n];constructor
    ·rintro(c|rfl)
     ·exact c
     ·rw[l]at d;cases d;exact(hx n).elim
    ·exact .inl
 ·by_cases f:b∈wr es s' i
  ·refine⟨i+1,hi,?_,fun j g m=>?_⟩
   ·rw[h.jk hi];exact ZC f _ _ (by rw[aGT h o_];exact p.len)
   ·have t:b∈(jd j (dL es s' j).heap.length (gL es j)).wr:=by
     unfold wr yQ at m;rw[h6,xl]at m;exact m
    have r:b∈(jd i (dL es s' i).heap.length (gL es i)).wr:=by
     unfold wr yQ at f;rw[h6,xl]at f;exact f
    constructor
    ·rintro(c|rfl)
     ·rcases ko j i with a|rfl|a
      ·omega
      ·omega
      ·refine(y j g a (h.heap i j a g ?_) c).elim;simp only[kZ,cy,ip,ik];exact .inl ⟨b,r,.inr t⟩
     ·omega
    ·intro a
     by_cases q:j=i
     ·exact .inr q
     ·refine .inl (w j o_ (h.heap j i o_ hi ?_));simp only[kZ,cy,ip,ik];exact .inl ⟨b,t,.inr r⟩
  ·obtain⟨k,k1,k2,k3⟩:=p.heap b;refine⟨k,k1,?_,fun j g m=>?_⟩
   ·simp only;rw[CC f];exact k2
   ·rw[<-k3 j g m];constructor
    ·rintro(c|rfl)
     ·exact c
     ·exact(f m).elim
    ·exact .inl
end sched
end
section
variable{P:dd}{ah:dp->Bool}{n:Nat}
variable{ops:Array Oper}{es:List (St×aZ)}{s':St}
theorem dm.congr{ai ad:Nat->Prop}{β:Bd}{s u:St}{t:Array dg}{w:dq}(h:dm P n ai ad β s t w)(b:∀x,aQ u.env x=aQ s.env x)(a:u.heap=s.heap):dm P n ai ad β u t w:=by
 refine⟨by rw[a];exact h.heap,fun x=>?_,fun x=>?_,h.size⟩
 ·rw[b,a];exact h.env x
 ·rw[b,a];exact h.iS x
theorem dm.tx{ai ad:Nat->Prop}{β:Bd}{s:St}{t:Array dg}{w:dq}(m:Nat)(h:dm P n ai ad β s t w):dm P n ai ad β ⟨s.env,s.heap++hV m .hole⟩ t w:=
 ⟨h.heap.tx m,fun x=>aB.mono (fun _ x=>x) (fun _ _=>rfl) (ur β s.heap m) _ _ (h.iS x) (h.env x),fun x=>aF.mono (q8 _ _) _ (h.iS x),h.size⟩
theorem av7{o:Oper}{e e':Env}(h:∀x∈looks ops o,aQ e' x=aQ e x):∀x∈o.op.operands,ev e' x=ev e x:=by
 intro x hx;cases x with
 |tmp t=>
  simp only[ev];refine h t ?_;simp only[looks,i7,List.mem_filterMap];exact .inl ⟨.tmp t,by simpa using hx,rfl⟩
 |_=>rfl
theorem kt.run(h:kt P n ops es s'){D:Nat->Prop}(hc:AD ops D){i:Nat}{o:Oper}(a:ops[i]?=some o)(v:¬D i)(y:∀e∈o.after,hB .any e=true->D e.on){s:St}(l:At ops es s' D s)
 {fr:ei}{k:List Item}{cs:List ei}{r:List Nat}{ds:List em}{ai ad:Nat->Prop}{β:Bd}{t:Array dg}{w:dq}(b:dm P n ai ad β s t w):
 ∃u aG aN d w',eM P (lone (bJ fr t ds (.inRegion ops (i::r)::k)) cs w) (lone (bJ fr d ds (.inRegion ops r::k)) cs w')/\dm P n ai aG aN u d w'/\(∀N,eU N ai ad w β s.heap ai aG w' aN u.heap)/\At ops es s' (fun j=>D j\/j=i) u:=by
 obtain⟨r1,z⟩:=h.reads hc a v y l;have hi:i<ops.size:=(b0.1 a).1;obtain⟨q,_⟩:=h.at_ i o a;have c:=h.next hc a v y l;have m:kr n o=true:=h.dst o (by rw[Array.mem_toList_iff];exact Array.mem_of_getElem? a);have G:=h.A8 (k:=i) o_;rcases q.act with⟨f,B⟩|⟨f,C⟩
 ·obtain⟨aG,aN,d,w',A,a2,a3⟩:=B fr k cs ops i r ds ai ad β s t w a (f t s ai ad β w b r1) m b (av7 r1) (by
   intro p x;rw[z p.1 (.inl (j7 x))];have:=q.ar p x;unfold hx;rw[iA (hS.1 this).1];exact this) (by
   intro j F;have E:(dL es s' i).heap.length+j∈wr es s' i:=by
    unfold wr yQ;rw[h6,xl];exact List.mem_append_right _ (MO.2 ⟨o_,o_⟩)
   rw[z _ (.inr E)];have g:=h.A8 (k:=i+1) o_;rw[(h.at_ i o a).2]at g;simp only[aZ.app,hU,sv]at g;unfold hx;rw[nv,if_neg o_,if_pos o_])
  exact⟨_,aG,aN,d,w',A,a2,a3,c⟩
 ·rw[C]at c;simp only[newAt,hX,bA]at c;exact⟨_,ad,β,_,w,.one (Ow a (f t s ai ad β w b r1)),b.put m (ct.refl b.heap) (by simp[aB,aE,bG,undef]) (by simp[aF]),fun _=>eU.refl _ _ _ _ _ _,c⟩
def isDone(a:Array Bool)(i:Nat):Prop:=a.getD i false=true
theorem Nx{p:Nat->Bool}{i:Nat}:∀{l:List Nat},l.Nodup->i∈l->p i=true->l.countP p=l.countP (fun x=>p x&&x !=i)+1
 |[],_,h,_=>by simp at h
 |a::l,hn,h,c=>by
  rw[List.nodup_cons]at hn
  by_cases b:a=i
  ·subst b;have e:l.countP (fun x=>p x&&x !=a)=l.countP p:=by
    refine j8 fun x hx=>?_;have:x≠a:=fun e=>hn.1 (e▸hx);simp[this]
   simp[c,e]
  ·have d:i∈l:=by
    rcases hZ.1 h with h|h
    ·exact(b h.symm).elim
    ·exact h
   have f:=Nx hn.2 d c;rw[j9,j9,f];have:(a !=i)=true:=by simpa using b
   simp only[this,Bool.and_true];omega
def left(b:Array Oper)(a:Array Bool):Nat:=(i4 b.size).countP fun i=>!a.getD i true
theorem kt.goes(h:kt P n ops es s'){fr:ei}{k:List Item}{cs:List ei}{ds:List em}{ai:Nat->Prop}:∀(c b:Nat)(a:Array Bool)(s:St)(ad:Nat->Prop)(β:Bd)(t:Array dg)(w:dq),a.size=ops.size->left ops a<=c->AD ops (isDone a)->
 At ops es s' (isDone a) s->dm P n ai ad β s t w->
 ∃u D aG aN R w',eM P (lone (bJ fr t ds (.inRegion ops (hD .any ops c b a [])::k)) cs w) (lone (bJ fr R ds (.inRegion ops []::k)) cs w')/\dm P n ai aG aN u R w'/\(∀N,eU N ai ad w β s.heap ai aG w' aN u.heap)/\At ops es s' D u/\∀j,j<ops.size->D j:=by
 have L:∀(a:Array Bool),a.size=ops.size->hw .any ops a=[]->∀j,j<ops.size->isDone a j:=by
  intro a q f j
  induction j using kC with
  |_ j K=>
   intro d
   by_cases A:isDone a j
   ·exact A
   ·exfalso;have G:j<a.size:=by omega
    have:j∈hw .any ops a:=by
     rw[er];refine⟨?_,ops[j],b1 d,fun e B z=>?_⟩
     ·unfold isDone at A;simp only[cc,b1 G,lb]at A⊢;simpa using A
     ·have H:=h.lower j _ (b1 d) e B z;exact K e.on H o_
    rw[f]at this;simp at this
 intro c
 induction c with
 |zero=>
  intro b a s ad β t w q O hc y C;have f:hw .any ops a=[]:=by
   rw[List.eq_nil_iff_forall_not_mem];intro j d;rw[er]at d;obtain⟨g,o,m,_⟩:=d;have G:j<ops.size:=(b0.1 m).1;have:0<left ops a:=by
    unfold left;rw[List.countP_pos_iff];exact⟨j,by simpa using G,by rw[g];rfl⟩
   omega
  exact⟨s,isDone a,ad,β,t,w,by simp only[hD,List.reverse_nil];exact hM _ _,C,fun _=>eU.refl _ _ _ _ _ _,y,L a q f⟩
 |succ c K=>
  intro b a s ad β t w q O hc y C;have ab:hD .any ops (c+1) b a []=(match(hw .any ops a)[b% (hw .any ops a).length]? with
   |some i=>hD .any ops c (b/(hw .any ops a).length) (a.setIfInBounds i true) [i]
   |none=>[].reverse):=rfl
  rw[ab];cases hi:(hw .any ops a)[b% (hw .any ops a).length]? with
  |none=>
   have f:hw .any ops a=[]:=by
    cases f:hw .any ops a with
    |nil=>rfl
    |cons x xs=>
     rw[f]at hi;have H:b% (x::xs).length<(x::xs).length:=Nat.mod_lt _ s_;rw[h0 H]at hi;cases hi
   exact⟨s,isDone a,ad,β,t,w,hM _ _,C,fun _=>eU.refl _ _ _ _ _ _,y,L a q f⟩
  |some i=>
   simp only;rw[linearise_go_acc,List.reverse_singleton,List.singleton_append];have af:=List.mem_of_getElem? hi;obtain⟨g,o,m,Q⟩:=er.1 af;have ac:i<ops.size:=(b0.1 m).1;have E:i<a.size:=o_
   have ag:¬isDone a i:=by
    unfold isDone;simp only[cc,b1 E,lb]at g⊢;simp[g]
   obtain⟨u,S,aj,t1,w1,U,a2,a3,a4⟩:=h.run (fr:=fr) (k:=k) (cs:=cs) (ds:=ds) (r:=hD .any ops c (b/(hw .any ops a).length) (a.setIfInBounds i true) []) hc m ag Q y C;have M:(fun j=>isDone a j\/j=i)=isDone (a.setIfInBounds i true):=by
    funext j
    unfold isDone
    by_cases F:j=i
    ·subst F;simp[E]
    ·have:(a.setIfInBounds i true).getD j false=a.getD j false:=ey false (kP F);rw[this];simp[F]
   rw[M]at a4;have aa:AD ops (isDone (a.setIfInBounds i true)):=by
    rw[<-M];intro j o' I d e B z;rcases d with d|rfl
    ·exact .inl (hc j o' I d e B z)
    ·rw[m]at I;cases I;exact .inl (Q e B z)
   have ae:left ops (a.setIfInBounds i true)<=c:=by
    have al:=Nx (p:=fun j=>!a.getD j true) (i:=i) (l:=i4 ops.size) List.nodup_range (by simpa using ac) (by show(!a.getD i true)=true;rw[g];rfl);have:left ops (a.setIfInBounds i true)=(i4 ops.size).countP (fun x=>!a.getD x true&&x !=i):=by
     unfold left;refine j8 fun x hx=>?_
     by_cases J:x=i
     ·subst J;simp[E]
     ·have:(a.setIfInBounds i true).getD x true=a.getD x true:=ey true (kP J);rw[this];simp[J]
    unfold left at O;omega
   obtain⟨v,D,T,ak,t2,ah,V,W,X,Y,Z⟩:=K (b/(hw .any ops a).length) (a.setIfInBounds i true) u S aj t1 w1 (by simpa using q) ae aa a4 a2;exact⟨v,D,T,ak,t2,ah,U.trans V,W,fun N=>(a3 N).trans (X N),Y,Z⟩
theorem av5(h:fit n ops=true):(∀j o,ops[j]?=some o->∀e∈o.after,hB .any e=true->e.on<j)/\
 (∀i j u o,i<j->ops[i]?=some u->ops[j]?=some o->uH ops u o=true->reach ops ops.size i j=true):=by
 unfold fit at h;rw[h9]at h;constructor
 ·intro j o a e f c;have b:j<ops.size:=(b0.1 a).1;have:=h j (by simpa using b);rw[a]at this;simp only[cx,h9]at this;have:=this.1 e (by simpa using f);simpa[c]using this
 ·intro i j u o g k a d;have b:j<ops.size:=(b0.1 a).1;have:=h j (by simpa using b);rw[a]at this;simp only[cx,h9]at this;have:=this.2 i (by simpa using g);rw[k]at this;simpa[d]using this
theorem Cq(C:nX P ah)(Z:P.follows .mixedOrders=true):xo P ah fit:=by
 intro n N a fr k cs F f K s ai ad β t w T B h aa;obtain⟨es,s',I,J,M⟩:=Pq C B a.toList 0 [] s (fun _ h=>h) h;obtain⟨t1,t2,t3⟩:=I.at;obtain⟨_,_,O⟩:=NR es 0 [] M;obtain⟨f1,f2⟩:=av5 (n:=n) T;have X:es.length=a.size:=by simpa using t1
 have hs:kt P n a es s':=by
  refine⟨X,fun k o c=>t3 k o (by simpa using c),B,f1,f2,fun i j U ag v=>?_⟩;have hi:i<es.length:=o_
  have A:j<es.length:=o_
  have G:es[i]?=some (es[i].1,es[i].2):=by simp[h0 hi]
  have H:es[j]?=some (es[j].1,es[j].2):=by simp[h0 A]
  have:=O i j es[i].1 es[i].2 es[j].1 es[j].2 U G H;simp only[kv]at this;refine this ?_;have g:dL es s' i=es[i].1/\gL es i=es[i].2:=by simp[dL,gL,h0 hi]
  have q:dL es s' j=es[j].1/\gL es j=es[j].2:=by simp[dL,gL,h0 A]
  rw[g.1,g.2,q.1,q.2]at v;exact v
 have V:=hs.A8 (k:=0) (kA _);rw[t2]at V;obtain⟨m,Y⟩:∃m,m=s'.heap.length-s.heap.length:=⟨_,rfl⟩
 have ab:=aa.tx m;have Q:∀N,eU N ai ad w β s.heap ai ad w β (s.heap++hV m .hole):=fun N=>⟨fun _ x=>x,fun _ x=>x,fun _ x=>.inl x,Ext.refl _ _ _,(ur _ _ _).n,fun x _=>q8 _ _ x,fun b _⟨L,r⟩=>⟨L,by rw[nv,if_pos (hS.1 r).1];exact r⟩⟩
 have ac:hC (P.follows .mixedOrders) a f=hD .any a a.size f (b5 a.size false) []:=by
  simp[hC,Z,Region.linearise]
 have e:∀i,¬isDone (b5 a.size false) i:=by
  intro i hi;unfold isDone at hi
  by_cases z:i<a.size
  ·simp[z]at hi
  ·simp[z]at hi
 have R:At a es s' (isDone (b5 a.size false)) ⟨s.env,s.heap++hV m .hole⟩:=by
  refine⟨fun x=>⟨0,kA _,by rw[t2],fun i o _ _=>⟨fun h=>(e i h).elim,fun h=>by omega⟩⟩,by simp;omega,fun b=>⟨0,kA _,by rw[t2];unfold hx;rw[<-Y],fun i _ _=>⟨fun h=>(e i h).elim,fun h=>by omega⟩⟩⟩
 have W:left a (b5 a.size false)<=a.size:=by
  unfold left;have:=List.countP_le_length (p:=fun i=>!(b5 a.size false).getD i true) (l:=i4 a.size);simpa using this
 obtain⟨u,D,aG,aN,af,w',E,a2,a3,a4,a5⟩:=hs.goes (fr:=fr) (k:=k) (cs:=cs) (ds:=F) a.size f (b5 a.size false) _ ad β t w s_ W (fun j o c d=>(e j d).elim) R ab;rw[ac];have S:∀x,aQ s'.env x=aQ u.env x:=by
  intro x;obtain⟨k,k1,k2,k3⟩:=a4.tmp x;rw[k2];have:=hs.QI (x:=x) k1 (kk a.size) (fun i o c d=>by
   have hi:i<a.size:=(b0.1 c).1;have:=(k3 i o c d).1 (a5 i hi);exact⟨fun _=>hi,fun _=>this⟩)
  rw[hs.last]at this;exact this
 have y:s'.heap=u.heap:=by
  apply List.ext_getElem?;intro b;obtain⟨k,k1,k2,k3⟩:=a4.heap b;rw[k2];have:=hs.Qt (b:=b) k1 (kk a.size) (fun i hi ae=>by
   have:=(k3 i hi ae).1 (a5 i hi);exact⟨fun _=>hi,fun _=>this⟩)
  rw[hs.last]at this;rw[<-this];simp[hx]
 exact⟨s',aG,aN,af,w',J,E,a2.congr S y,(Q N).trans (y▸a3 N)⟩
end
section
variable{P:dd}
structure aA(P:dd)(f:dp)(fn:Func):Prop where
 func:P.funcs[f]?=some fn
 stat:(fn.body.isSome&&(fn.name != "runtime.NumGoroutine")&&codeOk fit fn.ntmps (fn.body.getD .skip))=true
theorem i_{P:dd}{n:dp}{fn:Func}(h:P.funcs[n]?=some fn)(k:(fn.body.isSome&&(fn.name != "runtime.NumGoroutine")&&codeOk fit fn.ntmps (fn.body.getD .skip))=true:=by kernel_rfl):aA P n fn:=⟨h,k⟩
theorem aA.enters{f:dp}{fn:Func}(h:aA P f fn):Enters P f:=by
 intro args w;have hs:=h.stat;simp only[cx,bne_iff_ne]at hs;cases a:fn.body with
 |none=>rw[a]at hs;simp at hs
 |some c=>simp[callFunc,h.func,hs.1.2,a]
def Ends(P:dd)(a:List ee)(v:PV)(e:bF)(s:St):Prop:=
 (match e with
  | .exit _=>False
  |_=>True)/\∃vs,gN P s a=some vs/\fP s.heap 9 (oneOf vs)=some v
theorem Eg{f:dp}{fn:Func}(ah:dp->Bool)(h:aA P f fn)(b:P.follows .mixedOrders=true){args:List PV}{v:PV}(hn:args.length<=fn.ntmps)
 (c:cH P ah (fn.ntmps,0) (fn.body.getD .skip) (Ends P fn.results.toList v) ⟨j0 0 (args.map .p),[]⟩):aq P f args v:=by
 have hs:=h.stat;simp only[cx,bne_iff_ne]at hs;have a:fn.body=some (fn.body.getD .skip):=by
  have:=hs.1.1;cases d:fn.body<;>simp_all
 exact .inl (PN (sA ah) (Cq (sA ah) b) h.enters h.func a hs.2 hn c)
class aSg(P:dd)(f:dp)(args:List PV)(pre:outParam Prop)(v:outParam PV):Prop where
 Eg:pre->aq P f args v
section calls
variable{f:dp}{H:al}{pre:Prop}{v:PV}
end calls
def vK(e:Env):Env->Prop
 |[]=>True
 |(x,v)::r=>aQ e x=v/\vK e r
def mJ:al->al->Prop
 |_,[]=>True
 |[],.hole::t=>mJ [] t
 |_::h,.hole::t=>mJ h t
 |o::h,o'::t=>o=o'/\mJ h t
 |[],_::_=>False
theorem vK.get{e:Env}:∀{t:Env},vK e t->∀x,aQ t x=aQ e x\/aQ t x=.p .undef
 |[],_,x=>.inr rfl
 |(y,v)::t,h,x=>by
  simp only[vK]at h;simp only[aQ]
  split
  ·rename_i hx;subst hx;exact .inl h.1.symm
  ·exact vK.get h.2 x
theorem mJ.get:∀{h t:al},mJ h t->∀(b:Nat)(o:Obj),t[b]?=some o->o=.hole\/h[b]?=some o
 |_,[],_,b,o,a=>by simp at a
 |[],o'::t,hk,b,o,a=>by
  cases o'<;>simp only[mJ]at hk;cases b with
  |zero=>simp at a;exact .inl a.symm
  |succ b=>exact(mJ.get hk b o (by simpa using a)).imp id (fun h=>by simp at h)
 |c::h,o'::t,hk,b,o,a=>by
  cases b with
  |zero=>
   simp at a;cases o'<;>simp only[mJ]at hk
   case hole=>exact .inl a.symm
   all_goals exact .inr (by rw[<-a,<-hk.1];simp)
  |succ b=>
   have:mJ h t:=by cases o'<;>simp only[mJ]at hk<;>first|exact hk|exact hk.2
   exact(mJ.get this b o (by simpa using a)).imp id (fun h=>by simpa using h)
def jE(H:al):Env->Prop
 |[]=>True
 |(_,v)::r=>aF (aL H) v/\jE H r
def eA(H:al):al->Prop
 |[]=>True
 |o::r=>o.refs (aL H)/\eA H r
theorem jE.get{H:al}:∀{e:Env},jE H e->∀x,aF (aL H) (aQ e x)
 |[],_,x=>by simp[aQ,aF]
 |(y,v)::e,h,x=>by
  simp only[jE]at h;simp only[aQ]
  split
  ·exact h.1
  ·exact jE.get h.2 x
theorem eA.get{H:al}:∀{h:al},eA H h->∀(b:Nat)(o:Obj),h[b]?=some o->o.refs (aL H)
 |[],_,b,o,a=>by simp at a
 |c::h,hr,b,o,a=>by
  simp only[eA]at hr;cases b with
  |zero=>simp at a;subst a;exact hr.1
  |succ b=>exact eA.get hr.2 b o (by simpa using a)
theorem th.of{s t:St}(a:vK s.env t.env)(c:mJ s.heap t.heap)(e:jE t.heap t.env)(f:eA t.heap t.heap):th s t:=
 ⟨fun x=>(a.get x).imp id .inl,fun b o d=>(c.get b o d).imp id .inl,e.get,f.get⟩
theorem dJ.of{N:Nat}{s t:St}(hn:t.heap.take N=s.heap.take N)(c:vK s.env t.env)(d:mJ s.heap t.heap)(e:jE t.heap t.env)(f:eA t.heap t.heap):dJ N s t:=by
 refine .inr ⟨th.of c d e f,fun b a=>?_⟩;have:=congrArg (fun l:al=>l[b]?) hn;simpa[List.getElem?_take,a]using this
theorem T4{f:dp}{fn:Func}(ah:dp->Bool)(h:aA P f fn)(b:P.follows .mixedOrders=true){args:List AV}{H H':al}{v:AV}(hn:args.length<=fn.ntmps)
 (c:cH P ah (fn.ntmps,H.length) (fn.body.getD .skip) (yl P fn.results.toList H.length H' v) ⟨j0 0 args,H⟩):dE P f H args H' v:=by
 have hs:=h.stat;simp only[cx,bne_iff_ne]at hs;have a:fn.body=some (fn.body.getD .skip):=by
  have:=hs.1.1;cases d:fn.body<;>simp_all
 exact av4 (sA ah) (Cq (sA ah) b) h.enters h.func a hs.2 hn c
theorem T5(ah:dp->Bool)(f:P.follows .mixedOrders=true){b:Nat}{L:fk}{H H':al}{args:List AV}{v:AV}(d:H[b]?=some (.loop L))(e:args.length=L.params.length)
 (a:(L.params.all (fun x=>decide (x<L.n))&&codeOk fit L.n L.assign&&codeOk fit L.n L.body)=true)(g:C1 P ah L b args H (fun c h=>h=v/\dJ H.length ⟨[],c⟩ ⟨[],H'⟩)):gz P b H args H' v:=by
 simp only[cx,h9,decide_eq_true_eq]at a;exact av2 (sA ah) (Cq (sA ah) f) d e a.1.1 a.1.2 a.2 g
theorem again{N:Nat}{α:Type}{mk:α->St}{ok:α->Prop}{m:α->Nat}{n:Nat}{s':St}(a':α)(c:m a'<n)(d:ok a')(e:dJ N s' (mk a')):∃a b,a<n/\dJ N s' b/\∃a',ok a'/\b=mk a'/\a=m a':=
 ⟨m a',mk a',c,e,a',d,rfl,rfl⟩
end
section
variable{P:dd}{ah:dp->Bool}
def aW{α:Type}(F:(α->Prop)->Prop):Prop:=∀K,F K->∃a,K a/\∀b:α->Prop,b a->F b
theorem aW.one{α β:Type}(f:β->α)(b:β):aW (fun K:α->Prop=>K (f b)):=fun _ h=>⟨f b,h,fun _ h=>h⟩
theorem aW.false{α:Type}:aW (fun _:α->Prop=>False):=fun _ h=>h.elim
theorem aW.and{α:Type}{p:Prop}{F:(α->Prop)->Prop}(h:aW F):aW (fun K=>p/\F K):=fun K hk=>by
 obtain⟨a,c,d⟩:=h K hk.2;exact⟨a,c,fun b h=>⟨hk.1,d b h⟩⟩
theorem aW.ex{α:Type}{β:Sort _}{F:β->(α->Prop)->Prop}(h:∀b,aW (F b)):aW (fun K=>∃b,F b K):=fun K⟨b,f⟩=>by
 obtain⟨a,d,e⟩:=h b K f;exact⟨a,d,fun c h=>⟨b,e c h⟩⟩
theorem aW.or{α:Type}{F G:(α->Prop)->Prop}(h:aW F)(e:aW G):aW (fun K=>F K\/G K):=fun K hk=>by
 rcases hk with hk|hk
 ·obtain⟨a,c,d⟩:=h K hk;exact⟨a,c,fun b h=>.inl (d b h)⟩
 ·obtain⟨a,c,d⟩:=e K hk;exact⟨a,c,fun b h=>.inr (d b h)⟩
theorem aW.ite{α:Type}{p:Prop}[Decidable p]{F G:(α->Prop)->Prop}(h:aW F)(f:aW G):aW (fun K=>if p then F K else G K):=fun K hk=>by
 split at hk
 ·rename_i e;obtain⟨a,c,d⟩:=h K hk;exact⟨a,c,fun b h=>by simpa[e]using d b h⟩
 ·rename_i e;obtain⟨a,c,d⟩:=f K hk;exact⟨a,c,fun b h=>by simpa[e]using d b h⟩
theorem aW.bind{α β:Type}{F:(α->Prop)->Prop}{G:α->(β->Prop)->Prop}(h:aW F)(d:∀a,aW (G a)):aW (fun K=>F (fun a=>G a K)):=fun K hk=>by
 obtain⟨a,e,f⟩:=h _ hk;obtain⟨b,g,i⟩:=d a K e;exact⟨b,g,fun c h=>f _ (i c h)⟩
theorem aW.map{α β:Type}{F:(α->Prop)->Prop}(h:aW F)(f:α->β):aW (fun K=>F (fun a=>K (f a))):=h.bind fun a=>aW.one f a
theorem ZW(T:db)(H:al)(a:AV):aW (rB P T H a):=by
 unfold rB
 repeat' first
  |exact aW.false
  |exact aW.one id _
  |refine aW.and ?_
  |refine aW.ex fun _=>?_
  |split
theorem Zz(T:db)(H:al)(a x:AV):aW (re P T H a x):=by
 unfold re
 repeat' first
  |exact aW.false
  |exact aW.one id _
  |refine aW.and ?_
  |refine aW.ex fun _=>?_
  |split
theorem Xk(T:db)(a:AV)(f:Nat):aW (qU P T a f):=by
 unfold qU
 repeat' first
  |exact aW.false
  |exact aW.one id _
  |refine aW.and ?_
  |refine aW.ex fun _=>?_
  |split
theorem Xj(T:db)(H:al)(a i:AV):aW (qS P T H a i):=by
 unfold qS
 repeat' first
  |exact aW.false
  |exact aW.one id _
  |refine aW.and ?_
  |refine aW.ex fun _=>?_
  |split
theorem X7(T X:db)(H:al)(s x:AV):aW (qW P T X H s x):=by
 unfold qW
 repeat' first
  |exact aW.false
  |exact aW.one id _
  |refine aW.and ?_
  |refine aW.ex fun _=>?_
  |refine aW.ite ?_ ?_
  |split
theorem Pu{α:Type}{F:Nat->(α->Prop)->Prop}(x:Option AV)(d:Nat)(h:∀n,aW (F n)):aW (fun K=>iO x d (fun n=>F n K)):=by
 unfold iO
 split
 ·exact h _
 ·exact aW.and (h _)
 ·exact aW.false
theorem ZA(T:db)(H:al)(x:AV)(lo hi a:Option AV):aW (rh P T H x lo hi a):=by
 unfold rh;refine aW.and ?_
 repeat' first
  |exact aW.false
  |exact aW.one id _
  |refine aW.and ?_
  |refine Pu _ _ fun _=>?_
  |refine aW.ite ?_ ?_
  |split
theorem X6(T:db)(H:al)(x:AV)(lo hi:Option AV)(m:AV):aW (uI P T H x lo hi m):=by
 unfold uI
 repeat' first
  |exact aW.false
  |exact aW.one id _
  |refine aW.and ?_
  |refine Pu _ _ fun _=>?_
  |split
theorem au4(op:dy)(T:db)(c:Bool)(H:al)(x y:AV)(f:PV->aZ):aW (fun K:aZ->Prop=>mI P op T c H x y (fun v=>K (f v))):=by
 unfold mI
 repeat' first
  |exact aW.false
  |exact aW.one f _
  |refine aW.and ?_
  |(unfold tt;split)
  |(unfold tq;split)
  |split
theorem Wm(a:db)(b:Nat)(key:PV)(x:AV)(c:Obj):aW (pO P a b key x c):=by
 unfold pO
 repeat' first
  |exact aW.false
  |exact aW.one id _
  |refine aW.and ?_
  |split
theorem G8(o:Oper)(ρ:da->AV)(H:al):aW (gJ P ah o ρ H):=by
 unfold gJ
 repeat' first
  |exact aW.false
  |exact aW.one id _
  |exact ZW _ _ _
  |exact Zz _ _ _ _
  |exact Xk _ _ _
  |exact Xj _ _ _ _
  |exact ZA _ _ _ _ _ _
  |exact X6 _ _ _ _ _ _
  |exact X7 _ _ _ _ _
  |exact Wm _ _ _ _ _
  |exact au4 _ _ _ _ _ _ _
  |refine aW.and ?_
  |refine aW.ex fun _=>?_
  |refine aW.ite ?_ ?_
  |refine aW.or ?_ ?_
  |split
  |dsimp only
theorem OB(d:Bool)(f:dp)(args:List AV)(H:al){α:Type}(g:AV->al->α):aW (fun K:α->Prop=>jg P d f args H (fun v H'=>K (g v H'))):=by
 unfold jg;refine aW.or (aW.ex fun vs=>aW.ex fun v=>aW.and (aW.and ?_)) (aW.and (aW.or (aW.ex fun vs=>aW.ex fun H1=>aW.ex fun v=>aW.and (aW.and ?_)) (aW.or (aW.ex fun H'=>aW.ex fun v=>aW.and ?_) (aW.or (aW.ex fun e=>aW.and (aW.and ?_)) (aW.ex fun ar=>aW.ex fun v=>aW.and (aW.and ?_))))))
 ·exact aW.one (fun v=>g (.p v) H) v
 ·exact aW.one (fun v=>g (.p v) H1) v
 ·exact aW.one (fun v=>g v H') v
 ·exact aW.one (fun _:Unit=>g e.v (bA H e.aM++e.aY)) ()
 ·exact aW.one (fun v=>g (.p v) H) v
theorem NU(f:dp)(args:List AV)(H:al):aW (jn P f args H):=by
 unfold jn;refine aW.or (aW.ex fun vs=>aW.ex fun v=>aW.and (aW.and (aW.one id _))) (aW.or (aW.ex fun vs=>aW.ex fun bs=>aW.ex fun ar=>aW.ex fun aM=>aW.ex fun v=>aW.and (aW.and (aW.and (aW.one id _)))) (aW.or (aW.ex fun e=>aW.and (aW.and (aW.one id _))) (aW.ex fun ar=>aW.ex fun v=>aW.and (aW.and (aW.one id _)))))
theorem Oz(d:Bool)(o:Oper)(s:St):aW (fun K=>lO P ah d o K s):=by
 unfold lO
 split
 ·split
  ·exact OB _ _ _ _ (fun v H'=>(⟨put o.dst v s.env,H'⟩:St))
  ·exact OB _ _ _ _ (fun v H'=>(⟨put o.dst v s.env,H'⟩:St))
  ·exact aW.ex fun H'=>aW.ex fun v=>aW.and (aW.one (fun _:Unit=>(⟨put o.dst v s.env,H'⟩:St)) ())
  ·exact aW.false
 ·exact(G8 o _ _).map (fun e=>e.app o.dst s)
theorem OA(o:Oper)(s:St):aW (ln P ah o s):=by
 unfold ln
 split
 ·split
  ·exact NU _ _ _
  ·exact NU _ _ _
  ·exact aW.ex fun e=>aW.and (aW.and (aW.one id _))
  ·exact aW.false
 ·exact G8 o _ _
theorem CT(d:Bool)(a:Array Oper):∀(l:List Oper)(s:St),aW (fun K=>jh P ah d a l K s)
 |[],s=>by simp only[jh];exact aW.one id s
 |o::l,s=>by
  have go:aW (fun K=>lO P ah d o (jh P ah d a l K) s):=(Oz d o s).bind fun t=>CT d a l t;simp only[jh]
  split
  ·exact go
  ·split
   ·split
    ·exact go
    ·exact CT d a l _
   ·exact CT d a l _
   ·exact aW.false
theorem CB(b:Array Oper):∀(l:List Oper)(i:Nat)(a:List Touch)(s:St),aW (fun K=>iw P ah b l i a K s)
 |[],i,a,s=>by simp only[iw];exact aW.and (aW.one id s)
 |o::l,i,a,s=>by
  have go:aW (fun K=>ln P ah o s fun e=>iw P ah b l (i+1) (ij i s.heap.length e a) K (e.app o.dst s)):=(OA o s).bind fun e=>CB b l (i+1) _ _;simp only[iw]
  split
  ·exact go
  ·split
   ·split
    ·exact go
    ·exact CB b l (i+1) a _
   ·exact CB b l (i+1) a _
   ·exact aW.false
def DU(F:(bF->St->Prop)->Prop):Prop:=∀Q,F Q->∃e s,Q e s/\∀a:bF->St->Prop,a e s->F a
inductive AA(P:dd)(ah:dp->Bool)(q:Cx)(b:Code)(e:bF)(s:St):Nat->St->Prop
 |stop {k:Nat} {u:St}:(∀Q:bF->St->Prop,Q e s->cH P ah q b Q u)->e≠.normal->AA P ah q b e s k u
 |step {k m:Nat} {u s1 u':St}:(∀Q:bF->St->Prop,Q .normal s1->cH P ah q b Q u)->m<k->dJ q.2 s1 u'->AA P ah q b e s m u'->AA P ah q b e s k u
theorem ZX(j:Option Code)(s:St):DU (fun Q=>lJ Q j s):=fun Q h=>by
 unfold lJ at h
 split at h
 ·exact⟨.normal,s,h,fun _ h=>h⟩
 ·rename_i id;exact⟨.exit id,s,h,fun _ h=>h⟩
 ·exact⟨.ret,s,h,fun _ h=>h⟩
 ·exact h.elim
theorem Oy(b:Nat)(env:Env)(H:al):DU (fun Q=>jD b env Q H):=fun Q h=>by
 unfold jD at h
 split at h
 ·rename_i L f;obtain⟨e,s,c,d⟩:=ZX _ _ Q h.2;exact⟨e,s,c,fun a hq=>by unfold jD;simp only[f];exact⟨h.1,d a hq⟩⟩
 ·exact h.elim
theorem ZI(it:AV)(b:Nat)(H:al)(env:Env):DU (fun Q=>kV P it b H (jD b env Q)):=fun Q h=>by
 unfold kV at h
 split at h
 ·obtain⟨H',v,c,d⟩:=h;obtain⟨e,s,k1,k2⟩:=Oy b env H' Q d;exact⟨e,s,k1,fun a hq=>by simp only[kV];exact⟨H',v,c,k2 a hq⟩⟩
 ·obtain⟨H',v,c,d⟩:=h;obtain⟨e,s,k1,k2⟩:=Oy b env H' Q d;exact⟨e,s,k1,fun a hq=>by simp only[kV];exact⟨H',v,c,k2 a hq⟩⟩
 ·exact h.elim
theorem qQ{q:Cx}:∀(c:Code)(s:St),DU (fun Q=>cH P ah q c Q s)
 | .skip,s| .label _,s=>fun Q h=>⟨.normal,s,h,fun _ h=>h⟩
 | .exit id,s=>fun Q h=>⟨.exit id,s,h,fun _ h=>h⟩
 | .ret,s=>fun Q h=>⟨.ret,s,h,fun _ h=>h⟩
 | .region id ops draw,s=>fun Q h=>by
  simp only[cH]at h⊢
  split at h
  ·rename_i l;obtain⟨t,d,g⟩:=CB ops _ _ _ _ _ h;exact⟨.normal,t,d,fun Q' h=>by simp only[l,if_true];exact g _ h⟩
  ·rename_i l;obtain⟨t,d,g⟩:=CT _ ops _ _ _ h;exact⟨.normal,t,d,fun Q' h=>by rw[if_neg l];exact g _ h⟩
 | .seq a b,s=>fun Q h=>by
  simp only[cH]at h⊢;obtain⟨e,t,d,g⟩:=qQ a s _ h;cases e with
  |normal=>
   obtain⟨e',r,k,y⟩:=qQ b t _ d;exact⟨e',r,k,fun Q' h=>g _ (y Q' h)⟩
  |exit id=>exact⟨.exit id,t,d,fun Q' h=>g _ h⟩
  |ret=>exact⟨.ret,t,d,fun Q' h=>g _ h⟩
 | .cond c a b,s=>fun Q h=>by
  simp only[cH]at h⊢
  split at h
  ·split at h
   ·rename_i p;obtain⟨e,t,d,g⟩:=qQ a s _ h;exact⟨e,t,d,fun Q' h=>by rw[if_pos p];exact g _ h⟩
   ·rename_i p;obtain⟨e,t,d,g⟩:=qQ b s _ h;exact⟨e,t,d,fun Q' h=>by rw[if_neg p];exact g _ h⟩
  ·exact h.elim
 | .block id b,s=>fun Q h=>by
  simp only[cH]at h⊢;obtain⟨e,t,d,g⟩:=qQ b s _ h;cases e with
  |normal=>exact⟨.normal,t,d,fun Q' h=>g _ h⟩
  |exit i=>
   by_cases hi:i=id
   ·simp only[hi,if_true]at d;exact⟨.normal,t,d,fun Q' h=>g _ (by simp only[hi,if_true];exact h)⟩
   ·simp only[hi,if_false]at d;exact⟨.exit i,t,d,fun Q' h=>g _ (by simp only[hi,if_false];exact h)⟩
  |ret=>exact⟨.ret,t,d,fun Q' h=>g _ h⟩
 | .scope b,s=>fun Q h=>by simp only[cH]at h⊢;exact qQ b s Q h
 | .loop b,s=>fun Q h=>by
  simp only[cH]at h⊢;obtain⟨I,⟨w,t0,hf,hI⟩,F⟩:=h;have key:∀(n:Nat)(t:St),I n t->∃e u,Q e u/\e≠.normal/\AA P ah q b e u n t:=by
   intro n
   induction n using kC with
   |_ n G=>
    intro t hI;obtain⟨e,s1,d,g⟩:=qQ b t _ (F n t hI);cases e with
    |normal=>
     obtain⟨m,r,j,o,z⟩:=d;obtain⟨e,u,k1,k2,k3⟩:=G m j r z;exact⟨e,u,k1,k2,.step g j o k3⟩
    |exit id=>exact⟨.exit id,s1,d,s_,.stop g s_⟩
    |ret=>exact⟨.ret,s1,d,s_,.stop g s_⟩
  obtain⟨e,u,d,g,k⟩:=key w t0 hI;refine⟨e,u,d,fun Q' v=>⟨AA P ah q b e u,⟨w,t0,hf,k⟩,?_⟩⟩;intro n t C;cases C with
  |stop hs E=>
   refine hs _ ?_;cases e with
   |normal=>exact(E rfl).elim
   |exit id=>exact v
   |ret=>exact v
  |step hs j o D=>exact hs _ ⟨_,_,j,o,D⟩
 | .rangeFunc f H a b,s=>fun Q h=>by
  simp only[cH]at h;obtain⟨A,x,B,h⟩:=h;obtain⟨e,t,d,g⟩:=ZI _ _ _ _ Q h;exact⟨e,t,d,fun Q' hq=>by simp only[cH];exact⟨A,x,B,g Q' hq⟩⟩
 | .goto _,_| .refuse _,_=>fun Q h=>by simp[cH]at h
def Spec(P:dd)(f:dp)(args:List PV)(Q:PV->Prop):Prop:=∃v,aq P f args v/\Q v
def DX(P:dd)(a:List ee)(Q:PV->Prop)(e:bF)(s:St):Prop:=
 (match e with
  | .exit _=>False
  |_=>True)/\∃vs,gN P s a=some vs/\∃v,fP s.heap 9 (oneOf vs)=some v/\Q v
theorem Spec.mono{f:dp}{args:List PV}{Q a:PV->Prop}(h:Spec P f args Q)(hq:∀v,Q v->a v):Spec P f args a:=by
 obtain⟨v,b,c⟩:=h;exact⟨v,b,hq v c⟩
end
def ry(id:Nat)(Q:bF->St->Prop)(e:bF)(s:St):Prop:=
 match e with
 | .exit i=>if i=id then Q .normal s else Q (.exit i) s
 |e=>Q e s
theorem XB{id:Nat}{Q:bF->St->Prop}{s:St}:ry id Q .normal s=Q .normal s:=(rfl)
theorem YW{id i:Nat}{Q:bF->St->Prop}{s:St}:ry id Q (.exit i) s=if i=id then Q .normal s else Q (.exit i) s:=(rfl)
theorem Z0{id:Nat}{Q:bF->St->Prop}{s:St}:ry id Q .ret s=Q .ret s:=(rfl)
def xW(N n:Nat)(I:Nat->St->Prop)(Q:bF->St->Prop)(e:bF)(s:St):Prop:=
 match e with
 | .normal=>∃a b,a<n/\dJ N s b/\I a b
 |e=>Q e s
theorem Xp{N n:Nat}{I:Nat->St->Prop}{Q:bF->St->Prop}{s:St}:xW N n I Q .normal s=∃a b,a<n/\dJ N s b/\I a b:=(rfl)
theorem Ya{N n id:Nat}{I:Nat->St->Prop}{Q:bF->St->Prop}{s:St}:xW N n I Q (.exit id) s=Q (.exit id) s:=(rfl)
theorem ZE{N n:Nat}{I:Nat->St->Prop}{Q:bF->St->Prop}{s:St}:xW N n I Q .ret s=Q .ret s:=(rfl)
section Iz
variable{P:dd}
@[congr] theorem aDt{b:Array Oper}{l a:List Touch}(h:l=a):jL b l=jL b a:=by rw[h]
end Iz
section
variable{P:dd}{ah:dp->Bool}
abbrev fF:=Option (Prop×aZ)
def bu(r:fF)(K:aZ->Prop):Prop:=
 match r with
 |some (p,e)=>p/\K e
 |none=>False
theorem ZN{p:Prop}{e:aZ}{K:aZ->Prop}:bu (some (p,e)) K=(p/\K e):=(rfl)
theorem asa{K:aZ->Prop}:bu none K=False:=(rfl)
@[congr] theorem aUL{r a:fF}{K:aZ->Prop}(h:r=a):bu r K=bu a K:=by rw[h]
def Can(F:(aZ->Prop)->Prop)(r:fF):Prop:=∀K,bu r K->F K
theorem Can.none{F:(aZ->Prop)->Prop}:Can F none:=fun _ h=>h.elim
def tu(P:dd)(T:db)(H:al)(a:AV):fF:=
 match a with
 | .ptr b path=>match H[b]? with
  |some (.box fz t)=>match fX t path with
   |some s=>some (kindOf P T=aa s,{v:=s,ar:=[(b,.box fz t)]})
   |none=>none
  |_=>none
 | .cA b az ak i path=>match H[b]? with
  |some (.arr k d c es)=>match es[i]? with
   |some x=>match fX x path with
    |some s=>some ((az=d/\ak=c)/\kindOf P T=aa s,{v:=s,ar:=[(b,.arr k d c es)]})
    |none=>none
   |none=>none
  |_=>none
 | .p (.cM t)=>some (kindOf P T=aK t,{v:=.p t})
 |_=>none
theorem awo{T:db}{H:al}{a:AV}:Can (rB P T H a) (tu P T H a):=by
 intro K h;unfold tu at h;unfold rB
 split at h
 ·split at h
  ·rename_i b
   split at h
   ·rename_i hs;simp only[bu]at h;simp only[b,hs];exact h
   ·exact h.elim
  ·exact h.elim
 ·split at h
  ·rename_i b
   split at h
   ·rename_i x hx;obtain⟨hi,hx⟩:=hS.1 hx
    split at h
    ·rename_i hs;simp only[bu]at h;simp only[b];exact⟨h.1.1.1,h.1.1.2,hi,by rw[hx,hs];exact⟨h.1.2,h.2⟩⟩
    ·exact h.elim
   ·exact h.elim
  ·exact h.elim
 ·exact h
 ·exact h.elim
def sZ(P:dd)(T:db)(H:al)(a x:AV):fF:=
 match a with
 | .ptr b path=>match H[b]? with
  |some (.box false t)=>match fX t path,ia t path x with
   |some s,some d=>some ((kindOf P T=aa x/\aa x≠.bad)/\aa s=aa x,{v:=.p (.aC []),ar:=[(b,.box false t)],aM:=[(b,.box false d)]})
   |_,_=>none
  |_=>none
 | .cA b az ak i path=>match H[b]? with
  |some (.arr k e c es)=>match es[i]? with
   |some y=>match fX y path,ia y path x with
    |some s,some d=>some ((kindOf P T=aa x/\aa x≠.bad)/\(az=e/\ak=c/\k≠.frozen)/\aa s=aa x,{v:=.p (.aC []),ar:=[(b,.arr k e c es)],aM:=[(b,.arr k e c (es.set i d))]})
    |_,_=>none
   |none=>none
  |_=>none
 |_=>none
theorem auc{T:db}{H:al}{a x:AV}:Can (re P T H a x) (sZ P T H a x):=by
 intro K h;unfold sZ at h;unfold re
 split at h
 ·split at h
  ·rename_i b
   split at h
   ·rename_i hs c;simp only[bu]at h;simp only[b,hs,c];exact⟨h.1.1.1,h.1.1.2,h.1.2,h.2⟩
   ·exact h.elim
  ·exact h.elim
 ·split at h
  ·rename_i b
   split at h
   ·rename_i y d;obtain⟨hi,d⟩:=hS.1 d
    split at h
    ·rename_i hs c;simp only[bu]at h;simp only[b];exact⟨h.1.1.1,h.1.1.2,h.1.2.1.1,h.1.2.1.2.1,h.1.2.1.2.2,hi,by rw[d,hs,c];exact⟨h.1.2.2,h.2⟩⟩
    ·exact h.elim
   ·exact h.elim
  ·exact h.elim
 ·exact h.elim
def sD(P:dd)(T:db)(a:AV)(f:Nat):fF:=
 match fB P T with
 |some (u,n)=>match a with
  | .ptr b path=>some (f<n,{v:=.ptr b (path++[(u,f)])})
  | .cA b az ak i path=>some (f<n,{v:=.cA b az ak i (path++[(u,f)])})
  | .p (.cM t)=>match(cm t)[f]? with
   |some g=>some (f<n/\aK t=.agg u,{v:=.p (.cM g)})
   |none=>none
  |_=>none
 |_=>none
theorem Xy{T:db}{a:AV}{f:Nat}:Can (qU P T a f) (sD P T a f):=by
 intro K h;unfold sD at h;unfold qU
 split at h
 ·rename_i hs;simp only[hs]
  split at h
  ·exact h
  ·exact h
  ·split at h
   ·rename_i b;simp only[bu]at h;simp only[b];exact⟨h.1.1,h.1.2,h.2⟩
   ·exact h.elim
  ·exact h.elim
 ·exact h.elim
def sC(P:dd)(T:db)(H:al)(x i:AV):fF:=
 match i with
 | .p (.int _ i)=>match x with
  | .p (.dw _ es)=>match es[i.toNat]? with
   |some y=>some (0<=i/\c7 P T=some (bU P (aK y)),{v:=.p (.cM y)})
   |none=>none
  | .p (.seq es)=>match es[i.toNat]? with
   |some y=>some (0<=i/\c7 P T=some (bU P (aK y)),{v:=.p (.cM y)})
   |none=>none
  | .sl b az ak off len=>match H[b]? with
   |some (.arr k c a es)=>some (0<=i/\c7 P T=some ak/\i.toNat<len/\az=c/\ak=a/\¬(k.gr=true/\es=[]),{v:=.cA b az ak (off+i.toNat) [],ar:=[(b,.arr k c a es)]})
   |_=>none
  | .ptr b path=>match jr P T with
   |some (u,n)=>some (0<=i/\i.toNat<n,{v:=.ptr b (path++[(u,i.toNat)])})
   |_=>none
  | .cA b az ak j path=>match jr P T with
   |some (u,n)=>some (0<=i/\i.toNat<n,{v:=.cA b az ak j (path++[(u,i.toNat)])})
   |_=>none
  | .p (.cM t)=>match jr P T with
   |some (u,n)=>match(cm t)[i.toNat]? with
    |some g=>some (0<=i/\aK t=.agg u/\i.toNat<n,{v:=.p (.cM g)})
    |none=>none
   |_=>none
  |_=>none
 |_=>none
theorem Xx{T:db}{H:al}{x i:AV}:Can (qS P T H x i) (sC P T H x i):=by
 intro K h;unfold sC at h;unfold qS
 split at h
 case h_2=>exact h.elim
 split at h
 ·split at h
  ·rename_i y a;obtain⟨hi,a⟩:=hS.1 a;simp only[bu]at h;exact⟨h.1.1,hi,by rw[a];exact h.1.2,by rw[a];exact h.2⟩
  ·exact h.elim
 ·split at h
  ·rename_i y a;obtain⟨hi,a⟩:=hS.1 a;simp only[bu]at h;exact⟨h.1.1,hi,by rw[a];exact h.1.2,by rw[a];exact h.2⟩
  ·exact h.elim
 ·split at h
  ·rename_i l;simp only[bu]at h;obtain⟨⟨b,c,d,e,f,g⟩,j⟩:=h;refine⟨b,c,d,?_⟩;rw[l];exact⟨e,f,g,j⟩
  ·exact h.elim
 ·split at h
  ·rename_i hs;simp only[bu]at h;simp only[hs];exact⟨h.1.1,h.1.2,h.2⟩
  ·exact h.elim
 ·split at h
  ·rename_i hs;simp only[bu]at h;simp only[hs];exact⟨h.1.1,h.1.2,h.2⟩
  ·exact h.elim
 ·split at h
  ·rename_i hs
   split at h
   ·rename_i k;simp only[bu]at h;simp only[hs,k];exact⟨h.1.1,h.1.2.1,h.1.2.2,h.2⟩
   ·exact h.elim
  ·exact h.elim
 ·exact h.elim
end
section
variable{P:dd}{ah:dp->Bool}
def sY(P:dd)(T X:db)(H:al)(s x:AV):fF:=
 match c7 P T,jb H x with
 |some sz,some xs=>match s with
  | .p .aI=>some ((jO P X=true/\(cF P (fy P T)).isSome=true/\fZ P sz xs)/\xs.length<=dH,
   if xs.isEmpty then{v:=s,ar:=ez H x}else{v:=.sl H.length 0 sz 0 xs.length,ar:=ez H x,aY:=[.arr (gk P T) 0 sz xs]})
  | .sl b az ak off len=>match H[b]? with
   |some (.arr k c a es)=>some ((jO P X=true/\(cF P (fy P T)).isSome=true/\fZ P sz xs)/\(az=c/\ak=a/\ak=sz/\off+len<=es.length)/\es.length+xs.length<=dH/\k≠ .frozen/\(k≠ .exact->off=0)/\(k= .bytes->fy P T=Gl.u8),
    if xs.isEmpty then{v:=s,ar:=(b,.arr k c a es)::ez H x}
    else match k with
     | .exact=>if off+len+xs.length<=es.length then
      {v:=.sl b az ak off (len+xs.length),ar:=(b,.arr k c a es)::ez H x,aM:=[(b,.arr .exact az ak (es.take (off+len)++xs++es.drop (off+len+xs.length)))]}
      else{v:=.sl H.length 0 sz 0 (len+xs.length),ar:=(b,.arr k c a es)::ez H x,aY:=[.arr (gk P T) 0 sz ((es.drop off).take len++xs)]}
     |_=>{v:=.sl b (az+1) ak 0 (len+xs.length),ar:=(b,.arr k c a es)::ez H x,aM:=[(b,.arr k (az+1) ak (es.take len++xs))]})
   |_=>none
  |_=>none
 |_,_=>none
theorem Y1{T X:db}{H:al}{s x:AV}:Can (qW P T X H s x) (sY P T X H s x):=by
 intro K h;unfold sY at h;unfold qW
 split at h
 case h_2=>exact h.elim
 rename_i sz p i j;simp only[i,j]
 split at h
 ·simp only[bu]at h;obtain⟨⟨⟨b,a2,a3⟩,a4⟩,hk⟩:=h;refine⟨b,a2,a3,?_⟩;dsimp only
  split
  ·rename_i a;rw[if_pos a]at hk;exact hk
  ·rename_i a;rw[if_neg a]at hk;exact⟨a4,hk⟩
 ·split at h
  case h_2=>exact h.elim
  rename_i k o n m l;simp only[bu]at h;obtain⟨⟨⟨b,a2,a3⟩,⟨rfl,rfl,e,f⟩,g,a9,c,d⟩,hk⟩:=h;refine⟨b,a2,a3,?_⟩;simp only[l];refine⟨trivial,trivial,e,f,?_⟩
  split
  ·rename_i a;rw[if_pos a]at hk;exact hk
  ·rename_i a;rw[if_neg a]at hk;refine⟨g,?_⟩;cases k with
   |frozen=>exact a9 rfl
   |exact=>
    simp only at hk⊢
    split
    ·rename_i hc;rw[if_pos hc]at hk;exact hk
    ·rename_i hc;rw[if_neg hc]at hk;exact hk
   |grow=>exact⟨c s_,fun h=>(by cases h),hk⟩
   |bytes=>exact⟨c s_,d,hk⟩
 ·exact h.elim
def mO(x:Option AV)(d:Nat):Option (Prop×Nat):=
 match x with
 |none=>some (True,d)
 |some (.p (.int _ i))=>some (0<=i,i.toNat)
 |_=>none
theorem pX{x:Option AV}{d n:Nat}{p:Prop}{K:Nat->Prop}(h:mO x d=some (p,n))(a:p)(hk:K n):iO x d K:=by
 unfold mO at h;unfold iO
 split at h
 ·simp only[le,ll]at h;obtain⟨rfl,rfl⟩:=h;exact hk
 ·simp only[le,ll]at h;obtain⟨rfl,rfl⟩:=h;exact⟨a,hk⟩
 ·cases h
def s9(P:dd)(T:db)(H:al)(x:AV)(lo hi:Option AV):fF:=
 match x with
 | .p (.str s)=>match mO hi s.length,mO lo 0 with
  |some (p,h),some (q,l)=>some (jM P T=true/\p/\q/\h<=s.length/\l<=h,{v:=.p (.str ((s.take h).drop l))})
  |_,_=>none
 | .p .aI=>match mO hi 0,mO lo 0 with
  |some (p,h),some (q,l)=>some ((c7 P T).isSome=true/\p/\q/\h<=0/\l<=h,{v:=.p .aI})
  |_,_=>none
 | .p (.dw full es)=>match mO hi es.length,mO lo 0,c7 P T with
  |some (p,h),some (q,l),some sz=>some (p/\q/\h<=es.length/\l<=h/\fZ P sz (es.map .p),{v:=.p (.dw (full&&h==es.length) ((es.take h).drop l))})
  |_,_,_=>none
 | .p (.seq es)=>match mO hi es.length,mO lo 0,c7 P T with
  |some (p,h),some (q,l),some sz=>some (p/\q/\h<=es.length/\l<=h/\fZ P sz (es.map .p),{v:=.p (.seq ((es.take h).drop l))})
  |_,_,_=>none
 | .sl b az ak off len=>match H[b]? with
  |some (.arr k c a es)=>match mO hi len,mO lo 0 with
   |some (p,h),some (q,l)=>some ((az=c/\ak=a/\c7 P T=some ak/\¬(k.gr=true/\es=[])/\off+len<=es.length)/\p/\q/\off+h<=es.length/\l<=h,
    if l=0 then{v:=.sl b az ak off h,ar:=[(b,.arr k c a es)]}
    else if l=h then{v:=.p (.dw false []),ar:=[(b,.arr k c a es)]}
    else{v:=.sl b az ak (off+l) (h-l),ar:=[(b,.arr k c a es)]})
   |_,_=>none
  |_=>none
 |_=>none
theorem aud{T:db}{H:al}{x:AV}{lo hi:Option AV}:Can (rh P T H x lo hi none) (s9 P T H x lo hi):=by
 intro K h;unfold s9 at h;unfold rh;refine⟨rfl,?_⟩
 split at h
 ·split at h
  case h_2=>exact h.elim
  rename_i a b;simp only[bu]at h;obtain⟨⟨c,a2,a3,a4,a5⟩,hk⟩:=h;exact⟨c,pX a a2 (pX b a3 ⟨a4,a5,hk⟩)⟩
 ·split at h
  case h_2=>exact h.elim
  rename_i a b;simp only[bu]at h;obtain⟨⟨c,a2,a3,a4,a5⟩,hk⟩:=h;exact⟨c,pX a a2 (pX b a3 ⟨a4,a5,hk⟩)⟩
 ·split at h
  case h_2=>exact h.elim
  rename_i a b e;simp only[bu]at h;obtain⟨⟨a2,a3,a4,a5,d⟩,hk⟩:=h;refine pX a a2 (pX b a3 ⟨a4,a5,?_⟩);simp only[e];exact⟨d,hk⟩
 ·split at h
  case h_2=>exact h.elim
  rename_i a b e;simp only[bu]at h;obtain⟨⟨a2,a3,a4,a5,d⟩,hk⟩:=h;refine pX a a2 (pX b a3 ⟨a4,a5,?_⟩);simp only[e];exact⟨d,hk⟩
 ·split at h
  case h_2=>exact h.elim
  rename_i i
  split at h
  case h_2=>exact h.elim
  rename_i a b;simp only[bu]at h;obtain⟨⟨⟨c,a2,a3,a4,a5⟩,d,f,g,a9⟩,hk⟩:=h;simp only[i];refine⟨c,a2,a3,a4,a5,pX a d (pX b f ⟨g,a9,?_⟩)⟩
  split
  ·rename_i hc;rw[if_pos hc]at hk;exact hk
  ·rename_i hc;rw[if_neg hc]at hk
   split
   ·rename_i hc;rw[if_pos hc]at hk;exact hk
   ·rename_i hc;rw[if_neg hc]at hk;exact hk
 ·exact h.elim
def vA(P:dd)(T:db)(H:al)(x key:AV)(ok:Bool):fF:=
 match ld P T,key with
 |some (a,E),.p key=>match cF P E with
  |some z=>match x with
   | .p .gu=>some (fY P a key=true,{v:=.p (if ok then .aC [z,.bool false]else z)})
   | .p (.fu es)=>match gp P a es key with
    |some r=>some (fY P a key=true,{v:= .p (match r with
      |some v=>if ok then .aC [v,.bool true]else v
      |none=>if ok then .aC [z,.bool false]else z)})
    |none=>none
   | .map b=>match H[b]? with
    |some (.map fz es)=>match gp P a es key with
     |some r=>some (fY P a key=true,{v:= .p (match r with
       |some v=>if ok then .aC [v,.bool true]else v
       |none=>if ok then .aC [z,.bool false]else z),ar:=[(b,.map fz es)]})
     |none=>none
    |some (.dF ks vs)=>match lB P a ks vs key with
     |some r=>some (fY P a key=true/\nq key=true,{v:=qI ok z r,ar:=[(b,.dF ks vs)]})
     |none=>none
    |_=>none
   |_=>none
  |none=>none
 |_,_=>none
def A6(P:dd)(a:db)(b:Nat)(key:PV)(x:AV)(o:Obj):fF:=
 match sf o with
 |some (ks,vs)=>match lB P a ks vs key with
  |some none=>some (fY P a key=true/\nq key=true,{v:=.p (.aC []),ar:=[(b,o)],aM:=[(b,.dF (ks++[key]) (vs++[x]))]})
  |_=>none
 |none=>none
def pB(P:dd)(T:db)(H:al)(m k x:AV):fF:=
 match ld P T,m,k,x with
 |some (a,_),.map b,.p key,.p v=>match H[b]? with
  |some (.map false es)=>match oO P a es key with
   |some _=>some (fY P a key=true,{v:=.p (.aC []),ar:=[(b,.map false es)],aM:=[(b,.map false (gI es key v))]})
   |none=>none
  |some (.dF ks vs)=>A6 P a b key (.p v) (.dF ks vs)
  |_=>none
 |some (a,_),.map b,.p key,x=>match H[b]? with
  |some o=>A6 P a b key x o
  |none=>none
 |_,_,_,_=>none
def u7(P:dd)(T:db)(n:Nat)(x:AV):fF:=
 match x with
 | .p (.str s)=>some (jM P T=true,{v:=.ptr n [],aY:=[.dZ s 0]})
 |_=>none
def vF(H:al)(it:AV):fF:=
 match it with
 | .ptr b []=>match H[b]? with
  |some (.dZ s pos)=>some (True,if pos<s.length then
   {v:=.p (.aC [.bool true,.int .i64 pos,.int .i32 (hN (iH s) pos).1]),ar:=[(b,.dZ s pos)],aM:=[(b,.dZ s (pos+(hN (iH s) pos).2))]}
   else{v:=.p (.aC [.bool false]),ar:=[(b,.dZ s pos)]})
  |_=>none
 |_=>none
def vH(P:dd)(T:db)(n:Nat)(l c:AV):fF:=
 match c7 P T,cF P (fy P T),l,c with
 |some sz,some z,.p (.int .i64 l),.p (.int .i64 c)=>some (bU P (aK z)=sz/\0<=l/\l=c/\l<=dH,{v:=.sl n 0 sz 0 l.toNat,aY:=[.arr .exact 0 sz (hV l.toNat (.p z))]})
 |_,_,_,_=>none
def copyV(P:dd)(T:db)(H:al)(d x:AV):fF:=
 match c7 P T,d,jb H x with
 |some sz,.sl b az ak off len,some xs=>match H[b]? with
  |some (.arr k c a es)=>some ((ak=sz/\fZ P sz xs)/\az=c/\ak=a/\k≠ .frozen/\off+len<=es.length/\¬(k.gr=true/\es=[]),
   {v:=.p (.int .i64 (min xs.length len:Nat)),ar:=(b,.arr k c a es)::ez H x,aM:=[(b,.arr k c a (es.take off++xs.take (min xs.length len)++es.drop (off+min xs.length len)))]})
  |_=>none
 |_,_,_=>none
def uW(x:AV):fF:=
 match x with
 | .ptr _ _| .cA _ _ _ _ _| .p (.cM _)=>some (True,{v:=x})
 |_=>none
def mT(b:Bool)(c:List AV):fF:=
 match c with
 | .p (.int k a)::r=>match oh k b r a with
  |some n=>some (True,{v:=.p (.int k n)})
  |none=>none
 |_=>none
def vw(f:dp)(fi ca:List AV):fF:=
 match fq fi,fq ca with
 |some a,some b=>some (True,{v:=.p (.func f a b)})
 |_,_=>some (True,{v:=.func f fi ca})
end
section
variable{P:dd}{ah:dp->Bool}
def vD(c a b:AV):fF:=
 match c with
 | .p (.bool t)=>some (True,{v:=if t then a else b})
 |_=>none
def vk(P:dd)(T:db)(n:Nat):fF:=
 match cF P T with
 |some z=>some (kindOf P T=aK z/\aK z≠.bad/\lj T (aK z)=true,{v:=.ptr n [],aY:=[.box false (.p z)]})
 |none=>none
def yu(P:dd)(T:db)(n:Nat)(x:AV):fF:=some (kindOf P T=aa x/\aa x≠.bad/\lj T (aa x)=true,{v:=.ptr n [],aY:=[.box false x]})
def vh(P:dd)(T:db)(parts:List (Nat×AV)):fF:=
 match kindOf P T,cF P T with
 | .agg u,some z=>match dS P u with
  |some l=>some (aK z=.agg u/\n9 P l parts,{v:=jv u (jK ((cm z).map .p) parts)})
  |none=>none
 |_,_=>none
def uv(P:dd)(T:db)(n:Nat)(parts:List (Nat×AV))(b:Nat):fF:=
 match c7 P T,cF P (fy P T)with
 |some sz,some z=>some (bU P (aK z)=sz/\n*sz<=1000000/\n9 P (hV n sz) parts,{v:=.sl b 0 sz 0 n,aY:=[.arr .exact 0 sz (jK (hV n (.p z)) parts)]})
 |_,_=>none
def yB(op:dy)(k:ec)(a b:Int):Prop×PV:=
 match op with
 | .add=>(True,.int k (k.wrap (a+b)))
 | .sub=>(True,.int k (k.wrap (a-b)))
 | .mul=>(True,.int k (k.wrap (a*b)))
 | .quo=>(b≠0,.int k (k.wrap (a.tdiv b)))
 | .rem=>(b≠0,.int k (a.tmod b))
 | .and=>(True,.int k (k.wrap (ck k.bits a&&&ck k.bits b).toNat))
 | .or=>(True,.int k (k.wrap (ck k.bits a|||ck k.bits b).toNat))
 | .xor=>(True,.int k (k.wrap (ck k.bits a^^^ck k.bits b).toNat))
 | .andNot=>(True,.int k (k.wrap (ck k.bits a&&&~~~ck k.bits b).toNat))
 | .eql=>(True,.bool (a==b))
 | .neq=>(True,.bool (a !=b))
 | .lss=>(True,.bool (decide (a<b)))
 | .leq=>(True,.bool (decide (a<=b)))
 | .gtr=>(True,.bool (decide (a>b)))
 | .geq=>(True,.bool (decide (a>=b)))
 | .shl=>(0<=b,.int k (k.wrap (a*2^(min b.toNat k.bits))))
 | .shr=>(0<=b,.int k (a.fdiv (2^(min b.toNat k.bits))))
theorem aGY{op:dy}{k:ec}{a b:Int}{K:PV->Prop}(h:(yB op k a b).1)(hk:K (yB op k a b).2):tt op k a b K:=by
 cases op<;>simp only[yB,tt]at*<;>first|exact hk|exact⟨h,hk⟩
def Jg(op:dy)(a b:List Nat):Option (Prop×PV):=
 match op with
 | .add=>some (a.length+b.length<9223372036854775808,.str (a++b))
 | .eql=>some (True,.bool (a==b))
 | .neq=>some (True,.bool (!(a==b)))
 | .lss=>some (True,.bool (kU a b))
 | .leq=>some (True,.bool (kU a b||a==b))
 | .gtr=>some (True,.bool (!(kU a b||a==b)))
 | .geq=>some (True,.bool (!(kU a b)))
 |_=>none
def lh(P:dd)(op:dy)(T:db)(c:Bool)(H:al)(x y:AV):fF:=
 match x,y with
 | .p (.int k a),.p (.int d b)=>some ((k=d\/op=.shl\/op=.shr)/\(yB op k a b).1,{v:=.p (yB op k a b).2})
 | .p (.str a),.p (.str b)=>match Jg op a b with
  |some (p,v)=>some (p,{v:=.p v})
  |none=>none
 | .p (.bool a),.p (.bool b)=>match op with
  | .eql=>some (uZ P T=true,{v:=.p (.bool (a==b))})
  | .neq=>some (uZ P T=true,{v:=.p (.bool (!(a==b)))})
  |_=>none
 | .p (.st u fs),.p (.st u' gs)=>match gE P 9 T (.st u fs) (.st u' gs),op with
  |some r,.eql=>some (qp P T=true,{v:=.p (.bool r)})
  |some r,.neq=>some (qp P T=true,{v:=.p (.bool !r)})
  |_,_=>none
 |x,y=>match et P T c y with
  |some k=>match dB H k x,op with
   |some r,.eql=>some (True,{v:=.p (.bool r),ar:=ez H x})
   |some r,.neq=>some (True,{v:=.p (.bool !r),ar:=ez H x})
   |_,_=>none
  |none=>none
theorem OT{op:dy}{T:db}{c:Bool}{H:al}{x y:AV}{k:yR}{K:PV->Prop}(hk:et P T c y=some k):mI P op T c H x y K=(match dB H k x,op with
  |some r,.eql=>K (.bool r)
  |some r,.neq=>K (.bool !r)
  |_,_=>False):=by
 have a:=hk;rcases N3 hk with⟨rfl,rfl,_⟩|⟨rfl,rfl,_⟩|⟨rfl,rfl,_⟩|⟨rfl,rfl,_⟩|⟨rfl,rfl,_⟩
 all_goals
  unfold mI;cases x with
  |p v=>
   cases v<;>simp only[a]<;>(generalize dB H _ _=r;cases r<;>cases op<;>rfl)
  |_=>simp only[a];(generalize dB H _ _=r;cases r<;>cases op<;>rfl)
theorem aEZ{op:dy}{T:db}{c:Bool}{H:al}{x y:AV}:Can (fun K=>mI P op T c H x y (fun v=>K {v:=.p v,ar:=ez H x})) (lh P op T c H x y):=by
 intro K h;unfold lh at h;unfold mI
 split at h
 ·exact⟨h.1.1,aGY h.1.2 h.2⟩
 ·split at h
  ·rename_i p v a;simp only[bu]at h;show tq op _ _ _;unfold Jg at a
   split at a<;>first
    |(simp only[le,ll]at a
      obtain⟨b,d⟩:=a;rw[<-b,<-d]at h;simp only[tq]
      first|exact h.2|exact⟨h.1,h.2⟩)
    |cases a
  ·exact h.elim
 ·split at h
  ·exact⟨h.1,h.2⟩
  ·exact⟨h.1,h.2⟩
  ·exact h.elim
 ·split at h
  ·rename_i e;simp only[bu]at h;simp only[e];exact⟨h.1,h.2⟩
  ·rename_i e;simp only[bu]at h;simp only[e];exact⟨h.1,h.2⟩
  ·exact h.elim
 ·rename_i b d f g
  split at h
  case h_2=>exact h.elim
  rename_i k hk;clear b d f g;show mI P op T c H x y _;rw[OT hk];generalize dB H k x=q at h⊢;cases q<;>cases op<;>first|exact h.elim|exact h.2
def wE(op:UnOp)(x:AV):fF:=
 match op,x with
 | .not,.p (.bool b)=>some (True,{v:=.p (.bool (!b))})
 | .neg,.p (.int k n)=>some (True,{v:=.p (.int k (k.wrap (0-n)))})
 | .xor,.p (.int k n)=>some (True,{v:=.p (.int k (k.wrap (ck k.bits (if k.signed then -1 else k.max)^^^ck k.bits n).toNat))})
 |_,_=>none
def vt(P:dd)(S D:db)(H:al)(x:AV):fF:=
 match P.underlying S,P.underlying D,x with
 |some _,some (.int k),.p (.int _ n)=>some (True,{v:=.p (.int k (k.wrap n))})
 |some _,some .string,.p (.str s)=>some (True,{v:=.p (.str s)})
 |some (.slice e),some .string,.sl b az ak off len=>match H[b]? with
  |some (.arr k c a es)=>match bytesOf ((es.drop off).take len)with
   |some l=>some ((az=c/\ak=a/\ak=1/\P.underlying e=some (.int .u8)/\0<len/\off+len<=es.length),{v:=.p (.str l),ar:=[(b,.arr k c a es)]})
   |none=>none
  |_=>none
 |_,_,_=>none
def uL(t:AV)(i:Nat):fF:=
 match t with
 | .p (.aC vs)=>match vs[i]? with
  |some v=>some (True,{v:=.p v})
  |none=>none
 | .aC vs=>match vs[i]? with
  |some v=>some (True,{v})
  |none=>none
 |_=>none
def vo(P:dd)(T:db)(x i:AV):fF:=
 match x,i with
 | .p (.str s),.p (.int _ i)=>match s[i.toNat]? with
  |some c=>some (jM P T=true/\0<=i,{v:=.p (.int .u8 c)})
  |none=>none
 | .p (.st u es),.p (.int _ i)=>match jr P T,(lD P u)[i.toNat]?,es[i.toNat]? with
  |some (u',n),some F,some g=>some (u'=u/\0<=i/\i.toNat<n/\kindOf P F=aK g,{v:=.p g})
  |_,_,_=>none
 |_,_=>none
def wo(P:dd)(T:db)(n:Nat)(H:al)(x:AV):fF:=
 match lenOf H x with
 |some (m,ar)=>some (jj P T x=true/\0<n,{v:=.p (.int .i64 m),ar})
 |none=>none
def mV(P:dd)(ah:dp->Bool)(o:Oper)(e:Env)(H:al)(K:aZ->Prop):Prop:=
 match o.op with
 | .move x| .assign x=>K {v:=ev e x}
 | .pick c a b=>bu (vD (ev e c) (ev e a) (ev e b)) K
 | .alloc T=>bu (vk P T H.length) K
 | .box T x=>bu (yu P T H.length (ev e x)) K
 | .build T parts=>bu (vh P T (parts.toList.map fun(i,x)=>(i,ev e x))) K
 | .buildSlice T n parts=>bu (uv P T n (parts.toList.map fun(i,x)=>(i,ev e x)) H.length) K
 | .load T a=>bu (tu P T H (ev e a)) K
 | .store T a x=>bu (sZ P T H (ev e a) (ev e x)) K
 | .binOp op T x y _=>bu (lh P op T (pC y) H (ev e x) (ev e y)) K
 | .unOp op _ x=>bu (wE op (ev e x)) K
 | .convert S D x=>bu (vt P S D H (ev e x)) K
 | .extract t i=>bu (uL (ev e t) i) K
 | .fieldAddr T a f=>bu (sD P T (ev e a) f) K
 | .indexAddr T x i=>bu (sC P T H (ev e x) (ev e i)) K
 | .index T x i=>bu (vo P T (ev e x) (ev e i)) K
 | .slice T x lo hi none=>bu (s9 P T H (ev e x) (lo.map (ev e)) (hi.map (ev e))) K
 | .lookup T x i ok=>bu (vA P T H (ev e x) (ev e i) ok) K
 | .mapUpdate T m k x| .insert T m k x=>bu (pB P T H (ev e m) (ev e k) (ev e x)) K
 | .range T x=>bu (u7 P T H.length (ev e x)) K
 | .next it true=>bu (vF H (ev e it)) K
 | .makeSlice T l c=>bu (vH P T H.length (ev e l) (ev e c)) K
 | .nilCheck x=>bu (uW (ev e x)) K
 | .call c=>match c.callee with
  | .builtin .len=>(match c.args.toList with
   |[x]=>bu (wo P (c.argTypes.getD 0 0) c.argTypes.size H (ev e x)) K
   |_=>False)
  | .builtin .append=>(match c.args.toList with
   |[s,x]=>c.argTypes.size=2/\bu (sY P (c.argTypes.getD 0 0) (c.argTypes.getD 1 0) H (ev e s) (ev e x)) K
   |_=>False)
  | .builtin .copy=>(match c.args.toList with
   |[d,x]=>c.argTypes.size=2/\bu (copyV P (c.argTypes.getD 0 0) H (ev e d) (ev e x)) K
   |_=>False)
  | .builtin .min=>bu (mT false (c.args.toList.map (ev e))) K
  | .builtin .max=>bu (mT true (c.args.toList.map (ev e))) K
  |_=>gJ P ah o (ev e) H K
 |_=>gJ P ah o (ev e) H K
theorem Kw{a:db}{b:Nat}{key:PV}{x:AV}{c:Obj}{K:aZ->Prop}(h:bu (A6 P a b key x c) K):fY P a key=true/\pO P a b key x c K:=by
 unfold A6 at h;unfold pO
 split at h
 case h_2=>exact h.elim
 rename_i e
 split at h
 case h_2=>exact h.elim
 rename_i d;simp only[e];exact⟨h.1.1,h.1.2,d,h.2⟩
theorem Sr{o:Oper}{e:Env}{H:al}{K:aZ->Prop}(h:mV P ah o e H K):gJ P ah o (ev e) H K:=by
 unfold mV at h;unfold gJ;cases v:o.op<;>simp only[v]at h<;>simp only
 case move|assign=>exact h
 case pick c a b=>
  unfold vD at h
  split at h
  ·rename_i hc;simp only[hc];exact h.2
  ·exact h.elim
 case alloc T=>
  unfold vk at h
  split at h
  ·rename_i hz;simp only[bu]at h;simp only[hz];exact⟨h.1.1,h.1.2.1,h.1.2.2,h.2⟩
  ·exact h.elim
 case box T x=>exact⟨h.1.1,h.1.2.1,h.1.2.2,h.2⟩
 case build T parts=>
  unfold vh at h
  split at h
  ·rename_i hk hz
   split at h
   ·rename_i A;simp only[bu]at h;simp only[hk,hz,A];exact⟨h.1.1,h.1.2,h.2⟩
   ·exact h.elim
  ·exact h.elim
 case buildSlice T n parts=>
  unfold uv at h
  split at h
  ·rename_i hk hz;simp only[bu]at h;simp only[hk,hz];exact⟨h.1.1,h.1.2.1,h.1.2.2,h.2⟩
  ·exact h.elim
 case load T a=>exact awo K h
 case store T a x=>exact auc K h
 case binOp op T x y N=>exact aEZ K h
 case unOp op T x=>
  unfold wE at h
  split at h
  ·rename_i hx;simp only[hx];exact h.2
  ·rename_i hx;simp only[hx];exact h.2
  ·rename_i hx;simp only[hx];exact h.2
  ·exact h.elim
 case convert S D x=>
  unfold vt at h
  split at h
  ·rename_i g j p;simp only[g,j,p];exact h.2
  ·rename_i g j p;simp only[g,j,p];exact h.2
  ·rename_i g j p
   split at h
   ·rename_i q
    split at h
    ·rename_i A;obtain⟨⟨B,a2,a3,a4,a5,C⟩,h⟩:=h;simp only[g,j,p,q,A];exact⟨B,a2,a3,a4,a5,C,h⟩
    ·exact h.elim
   ·exact h.elim
  ·exact h.elim
 case extract t i=>
  unfold uL at h
  split at h
  ·rename_i E
   split at h
   ·rename_i F;simp only[E,F];exact h.2
   ·exact h.elim
  ·rename_i E
   split at h
   ·rename_i F;simp only[E,F];exact h.2
   ·exact h.elim
  ·exact h.elim
 case fieldAddr T a f=>exact Xy K h
 case indexAddr T x i=>exact Xx K h
 case index T x i=>
  unfold vo at h
  split at h
  ·rename_i hx hi
   split at h
   ·rename_i c hc;obtain⟨J,rfl⟩:=hS.1 hc;simp only[hx,hi];exact⟨h.1.1,h.1.2,J,h.2⟩
   ·exact h.elim
  ·rename_i hx hi
   split at h
   ·rename_i g j p;obtain⟨⟨g1,g2,g3,g4⟩,h⟩:=h;simp only[hx,hi,g,j,p];exact⟨g1,g2,g3,g4,h⟩
   ·exact h.elim
  ·exact h.elim
 case slice T x lo hi M=>
  cases M with
  |none=>exact aud K h
  |some m=>simp only[gJ,v]at h;exact h
 case lookup T x i ok=>
  unfold vA at h
  split at h
  case h_2=>exact h.elim
  rename_i L hi;simp only[L,hi]
  split at h
  case h_2=>exact h.elim
  rename_i z hz;simp only[hz]
  split at h
  ·rename_i hx;simp only[hx];exact h
  ·rename_i O hx;simp only[hx]
   split at h
   case h_2=>exact h.elim
   rename_i r u;refine⟨h.1,?_⟩;simp only[u];cases r<;>exact h.2
  ·rename_i b hx;simp only[hx]
   split at h
   ·rename_i q
    split at h
    case h_2=>exact h.elim
    rename_i r u;refine⟨h.1,?_⟩;simp only[q,u];cases r<;>exact h.2
   ·rename_i q
    split at h
    case h_2=>exact h.elim
    rename_i r u;refine⟨h.1.1,?_⟩;simp only[q,u];refine⟨h.1.2,?_⟩;cases r<;>exact h.2
   ·exact h.elim
  ·exact h.elim
 case mapUpdate T m k x|insert T m k x=>
  unfold pB at h
  split at h
  ·rename_i g j p w;simp only[g,j,p,w]
   split at h
   ·rename_i q
    split at h
    case h_2=>exact h.elim
    rename_i u;refine⟨h.1,?_⟩;simp only[q,u];exact h.2
   ·rename_i q;have h:=Kw h;refine⟨h.1,?_⟩;simp only[q];exact h.2
   ·exact h.elim
  ·rename_i R Q g j p w;simp only[g,j,p,w]
   split at h
   case h_2=>exact h.elim
   rename_i q;have h:=Kw h;refine⟨h.1,?_⟩;simp only[q];exact h.2
  ·exact h.elim
 case range T x=>
  unfold u7 at h
  split at h
  ·rename_i hx;simp only[hx];exact h
  ·exact h.elim
 case next it s=>
  cases s with
  |false=>simp only[gJ,v]at h
  |true=>
   dsimp only at h⊢;unfold vF at h
   split at h
   case h_2=>exact h.elim
   rename_i hx;simp only[hx]
   split at h
   case h_2=>exact h.elim
   rename_i q;simp only[q];have h:=h.2
   split
   ·rename_i hc;rw[if_pos hc]at h;exact h
   ·rename_i hc;rw[if_neg hc]at h;exact h
 case makeSlice T l c=>
  unfold vH at h
  split at h
  ·rename_i g j p w;simp only[g,j,p,w];exact⟨h.1.1,h.1.2.1,h.1.2.2.1,h.1.2.2.2,h.2⟩
  ·exact h.elim
 case nilCheck x=>
  unfold uW at h
  split at h
  ·rename_i hx;simp only[hx];rw[hx]at h;exact h.2
  ·rename_i hx;simp only[hx];rw[hx]at h;exact h.2
  ·rename_i hx;simp only[hx];rw[hx]at h;exact h.2
  ·exact h.elim
 case call c=>
  split at h
  ·rename_i hc
   split at h
   ·rename_i x hx;unfold wo at h
    split at h
    ·rename_i A;simp only[bu]at h;simp only[hc,hx,hW,h8,A];exact⟨h.1.1,h.1.2,h.2⟩
    ·exact h.elim
   ·exact h.elim
  ·rename_i hc
   split at h
   ·rename_i s x hx;simp only[hc,hx,hW,h8];exact⟨h.1,Y1 K h.2⟩
   ·exact h.elim
  ·rename_i hc
   split at h
   ·rename_i d x hx;simp only[hc,hx,hW,h8];obtain⟨I,h⟩:=h;unfold copyV at h
    split at h
    case h_2=>exact h.elim
    rename_i g j p
    split at h
    case h_2=>exact h.elim
    rename_i q;simp only[bu]at h;obtain⟨⟨⟨B,a2⟩,a3,a4,a5,C,G⟩,hk⟩:=h;simp only[g,j,p,q];exact⟨B,a2,I,a3,a4,a5,C,G,hk⟩
   ·exact h.elim
  ·rename_i hc;unfold mT at h
   split at h
   case h_2=>exact h.elim
   rename_i hx
   split at h
   case h_2=>exact h.elim
   rename_i u;simp only[hc,hx,u];exact h.2
  ·rename_i hc;unfold mT at h
   split at h
   case h_2=>exact h.elim
   rename_i hx
   split at h
   case h_2=>exact h.elim
   rename_i u;simp only[hc,hx,u];exact h.2
  ·unfold gJ at h;simp only[v]at h;exact h
 all_goals first
  |exact h
  |(unfold gJ at h
    simp only[v]at h;exact h)
  |(unfold gJ at h
    simp only[v]at h)
end
section
variable{P:dd}{ah:dp->Bool}
def fD(dst:Option Tmp)(s:St)(K:St->Prop)(e:aZ):Prop:=K (e.app dst s)
def Ev(dst:Option Tmp)(s:St)(K:St->Prop)(v:AV)(H:al):Prop:=K ⟨put dst v s.env,H⟩
def vu(P:dd)(f:AV)(args:List AV)(H:al)(K:AV->al->Prop):Prop:=
 match f with
 | .p (.func g fi ca)=>jg P false g (fi.map .p++args++ca.map .p) H K
 | .func g fi ca=>jg P false g (fi++args++ca) H K
 | .map b=>∃H' v,gz P b H args H' v/\K v H'
 |_=>False
def vg(P:dd)(f:AV)(args:List AV)(H:al)(K:aZ->Prop):Prop:=
 match f with
 | .p (.func g fi ca)=>jn P g (fi.map .p++args++ca.map .p) H K
 | .func g fi ca=>jn P g (fi++args++ca) H K
 | .map b=>∃e,rD P b args H.length e/\rH H e/\K e
 |_=>False
def dV(P:dd)(ah:dp->Bool)(o:Oper)(K:St->Prop)(s:St):Prop:=
 match o.op with
 | .call {callee:=.value f,args,.. }=>vu P (ev s.env f) (args.toList.map (ev s.env)) s.heap (Ev o.dst s K)
 |_=>mV P ah o s.env s.heap (fD o.dst s K)
def dW(P:dd)(ah:dp->Bool)(o:Oper)(s:St)(K:aZ->Prop):Prop:=
 match o.op with
 | .call {callee:=.value f,args,.. }=>vg P (ev s.env f) (args.toList.map (ev s.env)) s.heap K
 |_=>mV P ah o s.env s.heap K
theorem asw{o:Oper}{K:St->Prop}{s:St}(h:dV P ah o K s):lO P ah false o K s:=by
 unfold dV at h;unfold lO
 split at h
 ·rename_i f args b a;simp only[a];unfold vu at h
  split at h
  ·rename_i hf;simp only[hf];exact h
  ·rename_i hf;simp only[hf];exact h
  ·rename_i hf;simp only[hf];exact h
  ·exact h.elim
 ·rename_i c
  split
  ·rename_i f args b a;exact(c _ _ _ a).elim
  ·exact Sr h
theorem atK{o:Oper}{K:aZ->Prop}{s:St}(h:dW P ah o s K):ln P ah o s K:=by
 unfold dW at h;unfold ln
 split at h
 ·rename_i f args b a;simp only[a];unfold vg at h
  split at h
  ·rename_i hf;simp only[hf];exact h
  ·rename_i hf;simp only[hf];exact h
  ·rename_i hf;simp only[hf];exact h
  ·exact h.elim
 ·rename_i c
  split
  ·rename_i f args b a;exact(c _ _ _ a).elim
  ·exact Sr h
def il(P:dd)(ah:dp->Bool)(a:Array Oper):List Oper->(St->Prop)->St->Prop
 |[],K,s=>K s
 |o::r,K,s=>match o.guard with
  |none=>dV P ah o (il P ah a r K) s
  |some (j,want)=>match guardOf a j s.env with
   | .p (.bool t)=>if t=want then dV P ah o (il P ah a r K) s else il P ah a r K ⟨put o.dst (.p (.aC [])) s.env,s.heap⟩
   | .p (.aC [])=>il P ah a r K ⟨put o.dst (.p (.aC [])) s.env,s.heap⟩
   |_=>False
def iy(P:dd)(ah:dp->Bool)(a:Array Oper):List Oper->Nat->List Touch->(St->Prop)->St->Prop
 |[],_,acc,K,s=>jL a acc=true/\K s
 |o::r,i,acc,K,s=>match o.guard with
  |none=>dW P ah o s fun e=>iy P ah a r (i+1) (ij i s.heap.length e acc) K (e.app o.dst s)
  |some (j,want)=>match guardOf a j s.env with
   | .p (.bool t)=>if t=want then dW P ah o s fun e=>iy P ah a r (i+1) (ij i s.heap.length e acc) K (e.app o.dst s)
    else iy P ah a r (i+1) acc K ⟨put o.dst (.p (.aC [])) s.env,s.heap⟩
   | .p (.aC [])=>iy P ah a r (i+1) acc K ⟨put o.dst (.p (.aC [])) s.env,s.heap⟩
   |_=>False
theorem Dc{b:Array Oper}:∀(l:List Oper){K a:St->Prop}{s:St},(∀s,K s->a s)->il P ah b l K s->jh P ah false b l a s
 |[],K,a,s,hk,h=>by simp only[il]at h;simp only[jh];exact hk s h
 |o::l,K,a,s,hk,h=>by
  have go:dV P ah o (il P ah b l K) s->lO P ah false o (jh P ah false b l a) s:=fun h=>by
   obtain⟨t,f,g⟩:=Oz false o s _ (asw h);exact g _ (Dc l hk f)
  simp only[il]at h;simp only[jh]
  split at h
  ·rename_i c;simp only[c];exact go h
  ·rename_i j i c;simp only[c]
   split at h
   ·rename_i t d;simp only[d]
    split at h
    ·rename_i e;rw[if_pos e];exact go h
    ·rename_i e;rw[if_neg e];exact Dc l hk h
   ·rename_i d;simp only[d];exact Dc l hk h
   ·exact h.elim
theorem CJ{c:Array Oper}:∀(l:List Oper){i:Nat}{a:List Touch}{K b:St->Prop}{s:St},(∀s,K s->b s)->iy P ah c l i a K s->iw P ah c l i a b s
 |[],i,a,K,b,s,hk,h=>by simp only[iy]at h;simp only[iw];exact⟨h.1,hk s h.2⟩
 |o::l,i,a,K,b,s,hk,h=>by
  have go:dW P ah o s (fun e=>iy P ah c l (i+1) (ij i s.heap.length e a) K (e.app o.dst s))->ln P ah o s (fun e=>iw P ah c l (i+1) (ij i s.heap.length e a) b (e.app o.dst s)):=fun h=>by
   obtain⟨e,k,m⟩:=OA o s _ (atK h);exact m _ (CJ l hk k)
  simp only[iy]at h;simp only[iw]
  split at h
  ·rename_i d;simp only[d];exact go h
  ·rename_i j n d;simp only[d]
   split at h
   ·rename_i t f;simp only[f]
    split at h
    ·rename_i g;rw[if_pos g];exact go h
    ·rename_i g;rw[if_neg g];exact CJ l hk h
   ·rename_i f;simp only[f];exact CJ l hk h
   ·exact h.elim
def yd(v:AV)(a b:St->Prop)(s:St):Prop:=
 match v with
 | .p (.bool t)=>if t then a s else b s
 |_=>False
def yK(K:St->Prop)(Q:bF->St->Prop)(e:bF)(s:St):Prop:=
 match e with
 | .normal=>K s
 |e=>Q e s
def dU(P:dd)(ah:dp->Bool)(q:Cx):Code->(bF->St->Prop)->St->Prop
 | .skip,Q,s| .label _,Q,s=>Q .normal s
 | .region _ ops draw,Q,s=>if draw then iy P ah ops ops.toList 0 [] (Q .normal) s else il P ah ops ops.toList (Q .normal) s
 | .seq a b,Q,s=>dU P ah q a (yK (dU P ah q b Q) Q) s
 | .cond c a b,Q,s=>yd (ev s.env c) (dU P ah q a Q) (dU P ah q b Q) s
 | .block id b,Q,s=>dU P ah q b (ry id Q) s
 | .scope b,Q,s=>dU P ah q b Q s
 | .loop b,Q,s=>∃I:Nat->St->Prop,(∃n t,dJ q.2 s t/\I n t)/\∀n t,I n t->dU P ah q b (xW q.2 n I Q) t
 | .rangeFunc f d a b,Q,s=>q.2<=s.heap.length/\kV P (ev s.env f) s.heap.length (s.heap++[.loop ⟨.ready,none,q.1,d.toList,a,b,s.env⟩]) (jD s.heap.length s.env Q)
 | .exit id,Q,s=>Q (.exit id) s
 | .ret,Q,s=>Q .ret s
 |_,_,_=>False
theorem atf{Q a:bF->St->Prop}(hq:∀e s,Q e s->a e s){j:Option Code}{s:St}(h:lJ Q j s):lJ a j s:=by
 unfold lJ at h⊢
 split at h
 ·exact hq _ _ h
 ·exact hq _ _ h
 ·exact hq _ _ h
 ·exact h.elim
theorem Og{Q a:bF->St->Prop}(hq:∀e s,Q e s->a e s){b:Nat}{env:Env}{H:al}(h:jD b env Q H):jD b env a H:=by
 unfold jD at h⊢
 split at h
 ·exact⟨h.1,atf hq h.2⟩
 ·exact h.elim
theorem Od{it:AV}{b:Nat}{H:al}{K d:al->Prop}(hk:∀H,K H->d H)(h:kV P it b H K):kV P it b H d:=by
 unfold kV at h⊢
 split at h
 ·obtain⟨H',v,a,c⟩:=h;exact⟨H',v,a,hk _ c⟩
 ·obtain⟨H',v,a,c⟩:=h;exact⟨H',v,a,hk _ c⟩
 ·exact h.elim
theorem nW{q:Cx}:∀(c:Code){Q Q':bF->St->Prop}{s:St},(∀e s,Q e s->Q' e s)->dU P ah q c Q s->cH P ah q c Q' s
 | .skip,Q,Q',s,hq,h| .label _,Q,Q',s,hq,h=>by simp only[dU]at h;simp only[cH];exact hq _ _ h
 | .exit _,Q,Q',s,hq,h| .ret,Q,Q',s,hq,h=>by simp only[dU]at h;simp only[cH];exact hq _ _ h
 | .region id ops draw,Q,Q',s,hq,h=>by
  simp only[dU]at h;simp only[cH]
  split at h
  ·rename_i j;rw[if_pos j];exact CJ _ (hq _) h
  ·rename_i j;rw[if_neg j];exact Dc _ (hq _) h
 | .seq a b,Q,Q',s,hq,h=>by
  simp only[dU]at h;simp only[cH];refine nW a (fun e s d=>?_) h;cases e with
  |normal=>exact nW b hq d
  |exit id=>exact hq _ _ d
  |ret=>exact hq _ _ d
 | .cond c a b,Q,Q',s,hq,h=>by
  simp only[dU]at h;simp only[cH];unfold yd at h
  split at h
  ·rename_i t m;simp only[m]
   split at h
   ·rename_i g;rw[if_pos g];exact nW a hq h
   ·rename_i g;rw[if_neg g];exact nW b hq h
  ·exact h.elim
 | .block id b,Q,Q',s,hq,h=>by
  simp only[dU]at h;simp only[cH];refine nW b (fun e s d=>?_) h;cases e with
  |normal=>exact hq _ _ d
  |exit i=>
   simp only[ry]at d
   by_cases hi:i=id
   ·simp only[hi,if_true]at d⊢;exact hq _ _ d
   ·simp only[hi,if_false]at d⊢;exact hq _ _ d
  |ret=>exact hq _ _ d
 | .scope b,Q,Q',s,hq,h=>by simp only[dU]at h;simp only[cH];exact nW b hq h
 | .loop b,Q,Q',s,hq,h=>by
  simp only[dU]at h;simp only[cH];obtain⟨I,k,l⟩:=h;refine⟨I,k,fun n t hI=>nW b (fun e s d=>?_) (l n t hI)⟩;cases e with
  |normal=>exact d
  |exit id=>exact hq _ _ d
  |ret=>exact hq _ _ d
 | .rangeFunc f o a b,Q,Q',s,hq,h=>by
  simp only[dU]at h;simp only[cH];exact⟨h.1,s.env,fun _=>rfl,Od (fun H=>Og hq) h.2⟩
 | .goto _,_,_,_,_,h| .refuse _,_,_,_,_,h=>by simp[dU]at h
end
section
variable{P:dd}{ah:dp->Bool}{q:Cx}
theorem RX{Q:bF->St->Prop}{s:St}:dU P ah q .skip Q s=Q .normal s:=(rfl)
theorem QR{l:Nat}{Q:bF->St->Prop}{s:St}:dU P ah q (.label l) Q s=Q .normal s:=(rfl)
theorem RY{id:Nat}{Q:bF->St->Prop}{s:St}:dU P ah q (.exit id) Q s=Q (.exit id) s:=(rfl)
theorem Vj{Q:bF->St->Prop}{s:St}:dU P ah q .ret Q s=Q .ret s:=(rfl)
theorem QP{b:Code}{Q:bF->St->Prop}{s:St}:dU P ah q (.scope b) Q s=dU P ah q b Q s:=(rfl)
theorem RZ{id:Nat}{l:List Oper}{Q:bF->St->Prop}{s:St}:dU P ah q (.region id l.toArray true) Q s=iy P ah l.toArray l 0 [] (Q .normal) s:=by simp[dU]
theorem QQ{id:Nat}{l:List Oper}{Q:bF->St->Prop}{s:St}:dU P ah q (.region id l.toArray false) Q s=il P ah l.toArray l (Q .normal) s:=by simp[dU]
theorem Vk{a b:Code}{Q:bF->St->Prop}{s:St}:dU P ah q (.seq a b) Q s=dU P ah q a (yK (dU P ah q b Q) Q) s:=(rfl)
theorem QS{id:Nat}{b:Code}{Q:bF->St->Prop}{s:St}:dU P ah q (.block id b) Q s=dU P ah q b (ry id Q) s:=(rfl)
theorem R0{c:da}{a b:Code}{Q:bF->St->Prop}{s:St}:dU P ah q (.cond c a b) Q s=yd (ev s.env c) (dU P ah q a Q) (dU P ah q b Q) s:=(rfl)
theorem M9{K:St->Prop}{Q:bF->St->Prop}{s:St}:yK K Q .normal s=K s:=(rfl)
theorem OC{id:Nat}{K:St->Prop}{Q:bF->St->Prop}{s:St}:yK K Q (.exit id) s=Q (.exit id) s:=(rfl)
theorem Px{K:St->Prop}{Q:bF->St->Prop}{s:St}:yK K Q .ret s=Q .ret s:=(rfl)
theorem Ny{t:Bool}{a b:St->Prop}{s:St}:yd (.p (.bool t)) a b s=if t then a s else b s:=(rfl)
def AP(P:dd)(ah:dp->Bool)(b:Array Oper)(r:List Oper)(i:Nat)(a:List Touch)(K:St->Prop)(dst:Option Tmp)(s:St)(e:aZ):Prop:=
 iy P ah b r (i+1) (ij i s.heap.length e a) K (e.app dst s)
theorem P3{b:Array Oper}{r:List Oper}{i:Nat}{a:List Touch}{K:St->Prop}{dst:Option Tmp}{env:Env}{heap:al}{v:AV}{ar aM:List (Nat×Obj)}{aY:List Obj}:
 AP P ah b r i a K dst ⟨env,heap⟩ ⟨v,ar,aM,aY⟩=iy P ah b r (i+1) (ij i heap.length ⟨v,ar,aM,aY⟩ a) K ⟨put dst v env,bA heap aM++aY⟩:=(rfl)
theorem Ry{dst:Option Tmp}{env:Env}{heap:al}{K:St->Prop}{v:AV}{ar aM:List (Nat×Obj)}{aY:List Obj}:fD dst ⟨env,heap⟩ K ⟨v,ar,aM,aY⟩=K ⟨put dst v env,bA heap aM++aY⟩:=(rfl)
theorem Rd{dst:Option Tmp}{env:Env}{heap H:al}{K:St->Prop}{v:AV}:Ev dst ⟨env,heap⟩ K v H=K ⟨put dst v env,H⟩:=(rfl)
def Dg(P:dd)(ah:dp->Bool)(b:Array Oper)(o:Oper)(r:List Oper)(i:Nat)(a:List Touch)(K:St->Prop)(c:Bool)(s:St)(g:AV):Prop:=
 match g with
 | .p (.bool t)=>if t=c then dW P ah o s (AP P ah b r i a K o.dst s)else iy P ah b r (i+1) a K ⟨put o.dst (.p (.aC [])) s.env,s.heap⟩
 | .p (.aC [])=>iy P ah b r (i+1) a K ⟨put o.dst (.p (.aC [])) s.env,s.heap⟩
 |_=>False
def Du(P:dd)(ah:dp->Bool)(a:Array Oper)(o:Oper)(r:List Oper)(K:St->Prop)(b:Bool)(s:St)(g:AV):Prop:=
 match g with
 | .p (.bool t)=>if t=b then dV P ah o (il P ah a r K) s else il P ah a r K ⟨put o.dst (.p (.aC [])) s.env,s.heap⟩
 | .p (.aC [])=>il P ah a r K ⟨put o.dst (.p (.aC [])) s.env,s.heap⟩
 |_=>False
theorem RW{b:Array Oper}{i:Nat}{a:List Touch}{K:St->Prop}{s:St}:iy P ah b [] i a K s=(jL b a=true/\K s):=(rfl)
theorem QO{b:Array Oper}{i c:Nat}{pos:String}{a:List Touch}{K:St->Prop}{s:St}{dst:Option Tmp}{op:Op}{af:Array Edge}{r:List Oper}:
 iy P ah b ({dst,op,type:=c,pos,after:=af,guard:=none}::r) i a K s=dW P ah {dst,op,type:=c,pos,after:=af,guard:=none} s (AP P ah b r i a K dst s):=(rfl)
theorem PC{a:Array Oper}{i d j:Nat}{b:Bool}{pos:String}{c:List Touch}{K:St->Prop}{s:St}{dst:Option Tmp}{op:Op}{af:Array Edge}{r:List Oper}:
 iy P ah a ({dst,op,type:=d,pos,after:=af,guard:=some (j,b)}::r) i c K s=Dg P ah a {dst,op,type:=d,pos,after:=af,guard:=some (j,b)} r i c K b s (guardOf a j s.env):=(rfl)
theorem RU{a:Array Oper}{K:St->Prop}{s:St}:il P ah a [] K s=K s:=(rfl)
theorem QM{a:Array Oper}{b:Nat}{pos:String}{K:St->Prop}{s:St}{dst:Option Tmp}{op:Op}{af:Array Edge}{r:List Oper}:
 il P ah a ({dst,op,type:=b,pos,after:=af,guard:=none}::r) K s=dV P ah {dst,op,type:=b,pos,after:=af,guard:=none} (il P ah a r K) s:=(rfl)
theorem PB{a:Array Oper}{c j:Nat}{b:Bool}{pos:String}{K:St->Prop}{s:St}{dst:Option Tmp}{op:Op}{af:Array Edge}{r:List Oper}:
 il P ah a ({dst,op,type:=c,pos,after:=af,guard:=some (j,b)}::r) K s=Du P ah a {dst,op,type:=c,pos,after:=af,guard:=some (j,b)} r K b s (guardOf a j s.env):=(rfl)
end
section Iz
variable{P:dd}{ah:dp->Bool}{q:Cx}
end Iz
section ops
variable{P:dd}{ah:dp->Bool}{dst:Option Tmp}{ty:Nat}{pos:String}{af:Array Edge}{g:Option (Nat×Bool)}{env:Env}{heap:al}{K:aZ->Prop}{L:St->Prop}
theorem S2{x:da}:dW P ah ⟨dst,.move x,ty,pos,af,g⟩ ⟨env,heap⟩ K=K {v:=ev env x}:=(rfl)
theorem PY{x:da}:dW P ah ⟨dst,.assign x,ty,pos,af,g⟩ ⟨env,heap⟩ K=K {v:=ev env x}:=(rfl)
theorem S0{c a b:da}:dW P ah ⟨dst,.pick c a b,ty,pos,af,g⟩ ⟨env,heap⟩ K=bu (vD (ev env c) (ev env a) (ev env b)) K:=(rfl)
theorem Ro{T:db}:dW P ah ⟨dst,.alloc T,ty,pos,af,g⟩ ⟨env,heap⟩ K=bu (vk P T heap.length) K:=(rfl)
theorem TK{T:db}{x:da}:dW P ah ⟨dst,.box T x,ty,pos,af,g⟩ ⟨env,heap⟩ K=bu (yu P T heap.length (ev env x)) K:=(rfl)
theorem Rn{T:db}{parts:Array (Nat×da)}:dW P ah ⟨dst,.build T parts,ty,pos,af,g⟩ ⟨env,heap⟩ K=bu (vh P T (parts.toList.map fun(i,x)=>(i,ev env x))) K:=(rfl)
theorem MI{T:db}{n:Nat}{parts:Array (Nat×da)}:dW P ah ⟨dst,.buildSlice T n parts,ty,pos,af,g⟩ ⟨env,heap⟩ K=bu (uv P T n (parts.toList.map fun(i,x)=>(i,ev env x)) heap.length) K:=(rfl)
theorem SD{T:db}{a:da}:dW P ah ⟨dst,.load T a,ty,pos,af,g⟩ ⟨env,heap⟩ K=bu (tu P T heap (ev env a)) K:=(rfl)
theorem Rk{T:db}{a x:da}:dW P ah ⟨dst,.store T a x,ty,pos,af,g⟩ ⟨env,heap⟩ K=bu (sZ P T heap (ev env a) (ev env x)) K:=(rfl)
theorem TJ{op:dy}{T a:db}{x y:da}:dW P ah ⟨dst,.binOp op T x y a,ty,pos,af,g⟩ ⟨env,heap⟩ K=bu (lh P op T (pC y) heap (ev env x) (ev env y)) K:=(rfl)
theorem TO{op:UnOp}{T:db}{x:da}:dW P ah ⟨dst,.unOp op T x,ty,pos,af,g⟩ ⟨env,heap⟩ K=bu (wE op (ev env x)) K:=(rfl)
theorem SF{S D:db}{x:da}:dW P ah ⟨dst,.convert S D x,ty,pos,af,g⟩ ⟨env,heap⟩ K=bu (vt P S D heap (ev env x)) K:=(rfl)
theorem O5{t:da}{i:Nat}:dW P ah ⟨dst,.extract t i,ty,pos,af,g⟩ ⟨env,heap⟩ K=bu (uL (ev env t) i) K:=(rfl)
theorem Nb{T:db}{a:da}{f:Nat}:dW P ah ⟨dst,.fieldAddr T a f,ty,pos,af,g⟩ ⟨env,heap⟩ K=bu (sD P T (ev env a) f) K:=(rfl)
theorem Na{T:db}{x i:da}:dW P ah ⟨dst,.indexAddr T x i,ty,pos,af,g⟩ ⟨env,heap⟩ K=bu (sC P T heap (ev env x) (ev env i)) K:=(rfl)
theorem Rm{T:db}{x i:da}:dW P ah ⟨dst,.index T x i,ty,pos,af,g⟩ ⟨env,heap⟩ K=bu (vo P T (ev env x) (ev env i)) K:=(rfl)
theorem TL{x:da}{a:Array db}:dW P ah ⟨dst,.call {callee:=.builtin .len,args:=#[x],argTypes:=a},ty,pos,af,g⟩ ⟨env,heap⟩ K=bu (wo P (a.getD 0 0) a.size heap (ev env x)) K:=(rfl)
theorem SG{f:da}{args:List da}{a:Array db}:dW P ah ⟨dst,.call {callee:=.value f,args:=args.toArray,argTypes:=a},ty,pos,af,g⟩ ⟨env,heap⟩ K=vg P (ev env f) (args.map (ev env)) heap K:=(rfl)
theorem Sk{x:da}:dV P ah ⟨dst,.move x,ty,pos,af,g⟩ L ⟨env,heap⟩=fD dst ⟨env,heap⟩ L {v:=ev env x}:=(rfl)
theorem Pf{x:da}:dV P ah ⟨dst,.assign x,ty,pos,af,g⟩ L ⟨env,heap⟩=fD dst ⟨env,heap⟩ L {v:=ev env x}:=(rfl)
theorem Si{c a b:da}:dV P ah ⟨dst,.pick c a b,ty,pos,af,g⟩ L ⟨env,heap⟩=bu (vD (ev env c) (ev env a) (ev env b)) (fD dst ⟨env,heap⟩ L):=(rfl)
theorem Q1{T:db}:dV P ah ⟨dst,.alloc T,ty,pos,af,g⟩ L ⟨env,heap⟩=bu (vk P T heap.length) (fD dst ⟨env,heap⟩ L):=(rfl)
theorem UJ{T:db}{x:da}:dV P ah ⟨dst,.box T x,ty,pos,af,g⟩ L ⟨env,heap⟩=bu (yu P T heap.length (ev env x)) (fD dst ⟨env,heap⟩ L):=(rfl)
theorem Q0{T:db}{parts:Array (Nat×da)}:dV P ah ⟨dst,.build T parts,ty,pos,af,g⟩ L ⟨env,heap⟩=bu (vh P T (parts.toList.map fun(i,x)=>(i,ev env x))) (fD dst ⟨env,heap⟩ L):=(rfl)
theorem MD{T:db}{n:Nat}{parts:Array (Nat×da)}:dV P ah ⟨dst,.buildSlice T n parts,ty,pos,af,g⟩ L ⟨env,heap⟩=bu (uv P T n (parts.toList.map fun(i,x)=>(i,ev env x)) heap.length) (fD dst ⟨env,heap⟩ L):=(rfl)
theorem Sl{T:db}{a:da}:dV P ah ⟨dst,.load T a,ty,pos,af,g⟩ L ⟨env,heap⟩=bu (tu P T heap (ev env a)) (fD dst ⟨env,heap⟩ L):=(rfl)
theorem Rf{T:db}{a x:da}:dV P ah ⟨dst,.store T a x,ty,pos,af,g⟩ L ⟨env,heap⟩=bu (sZ P T heap (ev env a) (ev env x)) (fD dst ⟨env,heap⟩ L):=(rfl)
theorem UI{op:dy}{T a:db}{x y:da}:dV P ah ⟨dst,.binOp op T x y a,ty,pos,af,g⟩ L ⟨env,heap⟩=bu (lh P op T (pC y) heap (ev env x) (ev env y)) (fD dst ⟨env,heap⟩ L):=(rfl)
theorem UN{op:UnOp}{T:db}{x:da}:dV P ah ⟨dst,.unOp op T x,ty,pos,af,g⟩ L ⟨env,heap⟩=bu (wE op (ev env x)) (fD dst ⟨env,heap⟩ L):=(rfl)
theorem Sn{S D:db}{x:da}:dV P ah ⟨dst,.convert S D x,ty,pos,af,g⟩ L ⟨env,heap⟩=bu (vt P S D heap (ev env x)) (fD dst ⟨env,heap⟩ L):=(rfl)
theorem Of{t:da}{i:Nat}:dV P ah ⟨dst,.extract t i,ty,pos,af,g⟩ L ⟨env,heap⟩=bu (uL (ev env t) i) (fD dst ⟨env,heap⟩ L):=(rfl)
theorem MZ{T:db}{a:da}{f:Nat}:dV P ah ⟨dst,.fieldAddr T a f,ty,pos,af,g⟩ L ⟨env,heap⟩=bu (sD P T (ev env a) f) (fD dst ⟨env,heap⟩ L):=(rfl)
theorem MY{T:db}{x i:da}:dV P ah ⟨dst,.indexAddr T x i,ty,pos,af,g⟩ L ⟨env,heap⟩=bu (sC P T heap (ev env x) (ev env i)) (fD dst ⟨env,heap⟩ L):=(rfl)
theorem QZ{T:db}{x i:da}:dV P ah ⟨dst,.index T x i,ty,pos,af,g⟩ L ⟨env,heap⟩=bu (vo P T (ev env x) (ev env i)) (fD dst ⟨env,heap⟩ L):=(rfl)
theorem UK{x:da}{a:Array db}:dV P ah ⟨dst,.call {callee:=.builtin .len,args:=#[x],argTypes:=a},ty,pos,af,g⟩ L ⟨env,heap⟩=bu (wo P (a.getD 0 0) a.size heap (ev env x)) (fD dst ⟨env,heap⟩ L):=(rfl)
theorem So{f:da}{args:List da}{a:Array db}:dV P ah ⟨dst,.call {callee:=.value f,args:=args.toArray,argTypes:=a},ty,pos,af,g⟩ L ⟨env,heap⟩=vu P (ev env f) (args.map (ev env)) heap (Ev dst ⟨env,heap⟩ L):=(rfl)
theorem Rl{T:db}{x:da}{lo hi:Option da}:dW P ah ⟨dst,.slice T x lo hi none,ty,pos,af,g⟩ ⟨env,heap⟩ K=bu (s9 P T heap (ev env x) (lo.map (ev env)) (hi.map (ev env))) K:=(rfl)
theorem QX{T:db}{x:da}{lo hi:Option da}:dV P ah ⟨dst,.slice T x lo hi none,ty,pos,af,g⟩ L ⟨env,heap⟩=bu (s9 P T heap (ev env x) (lo.map (ev env)) (hi.map (ev env))) (fD dst ⟨env,heap⟩ L):=(rfl)
theorem PW{T:db}{x i:da}{ok:Bool}:dW P ah ⟨dst,.lookup T x i ok,ty,pos,af,g⟩ ⟨env,heap⟩ K=bu (vA P T heap (ev env x) (ev env i) ok) K:=(rfl)
theorem Pc{T:db}{x i:da}{ok:Bool}:dV P ah ⟨dst,.lookup T x i ok,ty,pos,af,g⟩ L ⟨env,heap⟩=bu (vA P T heap (ev env x) (ev env i) ok) (fD dst ⟨env,heap⟩ L):=(rfl)
theorem Nr{T:db}{m k x:da}:dW P ah ⟨dst,.mapUpdate T m k x,ty,pos,af,g⟩ ⟨env,heap⟩ K=bu (pB P T heap (ev env m) (ev env k) (ev env x)) K:=(rfl)
theorem MW{T:db}{m k x:da}:dV P ah ⟨dst,.mapUpdate T m k x,ty,pos,af,g⟩ L ⟨env,heap⟩=bu (pB P T heap (ev env m) (ev env k) (ev env x)) (fD dst ⟨env,heap⟩ L):=(rfl)
theorem PX{T:db}{m k x:da}:dW P ah ⟨dst,.insert T m k x,ty,pos,af,g⟩ ⟨env,heap⟩ K=bu (pB P T heap (ev env m) (ev env k) (ev env x)) K:=(rfl)
theorem Pe{T:db}{m k x:da}:dV P ah ⟨dst,.insert T m k x,ty,pos,af,g⟩ L ⟨env,heap⟩=bu (pB P T heap (ev env m) (ev env k) (ev env x)) (fD dst ⟨env,heap⟩ L):=(rfl)
theorem Le{T:db}{x:da}:dW P ah ⟨dst,.range T x,ty,pos,af,g⟩ ⟨env,heap⟩ K=bu (u7 P T heap.length (ev env x)) K:=(rfl)
theorem QY{T:db}{x:da}:dV P ah ⟨dst,.range T x,ty,pos,af,g⟩ L ⟨env,heap⟩=bu (u7 P T heap.length (ev env x)) (fD dst ⟨env,heap⟩ L):=(rfl)
theorem S1{it:da}:dW P ah ⟨dst,.next it true,ty,pos,af,g⟩ ⟨env,heap⟩ K=bu (vF heap (ev env it)) K:=(rfl)
theorem Sj{it:da}:dV P ah ⟨dst,.next it true,ty,pos,af,g⟩ L ⟨env,heap⟩=bu (vF heap (ev env it)) (fD dst ⟨env,heap⟩ L):=(rfl)
theorem Ns{T:db}{l c:da}:dW P ah ⟨dst,.makeSlice T l c,ty,pos,af,g⟩ ⟨env,heap⟩ K=bu (vH P T heap.length (ev env l) (ev env c)) K:=(rfl)
theorem MX{T:db}{l c:da}:dV P ah ⟨dst,.makeSlice T l c,ty,pos,af,g⟩ L ⟨env,heap⟩=bu (vH P T heap.length (ev env l) (ev env c)) (fD dst ⟨env,heap⟩ L):=(rfl)
theorem Nv{x:da}:dW P ah ⟨dst,.nilCheck x,ty,pos,af,g⟩ ⟨env,heap⟩ K=bu (uW (ev env x)) K:=(rfl)
theorem NZ{x:da}:dV P ah ⟨dst,.nilCheck x,ty,pos,af,g⟩ L ⟨env,heap⟩=bu (uW (ev env x)) (fD dst ⟨env,heap⟩ L):=(rfl)
theorem TN{args:Array da}{a:Array db}:dW P ah ⟨dst,.call {callee:=.builtin .min,args,argTypes:=a},ty,pos,af,g⟩ ⟨env,heap⟩ K=bu (mT false (args.toList.map (ev env))) K:=(rfl)
theorem UM{args:Array da}{a:Array db}:dV P ah ⟨dst,.call {callee:=.builtin .min,args,argTypes:=a},ty,pos,af,g⟩ L ⟨env,heap⟩=bu (mT false (args.toList.map (ev env))) (fD dst ⟨env,heap⟩ L):=(rfl)
theorem TM{args:Array da}{a:Array db}:dW P ah ⟨dst,.call {callee:=.builtin .max,args,argTypes:=a},ty,pos,af,g⟩ ⟨env,heap⟩ K=bu (mT true (args.toList.map (ev env))) K:=(rfl)
theorem UL{args:Array da}{a:Array db}:dV P ah ⟨dst,.call {callee:=.builtin .max,args,argTypes:=a},ty,pos,af,g⟩ L ⟨env,heap⟩=bu (mT true (args.toList.map (ev env))) (fD dst ⟨env,heap⟩ L):=(rfl)
theorem O4{T:db}:dW P ah ⟨dst,.makeMap T none,ty,pos,af,g⟩ ⟨env,heap⟩ K=K {v:=.map heap.length,aY:=[.map false []]}:=(rfl)
theorem OQ{T:db}:dV P ah ⟨dst,.makeMap T none,ty,pos,af,g⟩ L ⟨env,heap⟩=fD dst ⟨env,heap⟩ L {v:=.map heap.length,aY:=[.map false []]}:=(rfl)
theorem PZ{s x:da}{T X:db}:dW P ah ⟨dst,.call {callee:=.builtin .append,args:=#[s,x],argTypes:=#[T,X]},ty,pos,af,g⟩ ⟨env,heap⟩ K=bu (sY P T X heap (ev env s) (ev env x)) K:=by simp[dW,mV]
theorem Pg{s x:da}{T X:db}:dV P ah ⟨dst,.call {callee:=.builtin .append,args:=#[s,x],argTypes:=#[T,X]},ty,pos,af,g⟩ L ⟨env,heap⟩=bu (sY P T X heap (ev env s) (ev env x)) (fD dst ⟨env,heap⟩ L):=by simp[dV,mV]
theorem SE{s x:da}{T X:db}:dW P ah ⟨dst,.call {callee:=.builtin .copy,args:=#[s,x],argTypes:=#[T,X]},ty,pos,af,g⟩ ⟨env,heap⟩ K=bu (copyV P T heap (ev env s) (ev env x)) K:=by simp[dW,mV]
theorem Sm{s x:da}{T X:db}:dV P ah ⟨dst,.call {callee:=.builtin .copy,args:=#[s,x],argTypes:=#[T,X]},ty,pos,af,g⟩ L ⟨env,heap⟩=bu (copyV P T heap (ev env s) (ev env x)) (fD dst ⟨env,heap⟩ L):=by simp[dV,mV]
theorem TG{f:dp}{fi ca:List AV}{args:List AV}{M:AV->al->Prop}:vu P (.func f fi ca) args heap M=jg P false f (fi++args++ca) heap M:=(rfl)
theorem SH{f:dp}{fi ca:List AV}{args:List AV}:vg P (.func f fi ca) args heap K=jn P f (fi++args++ca) heap K:=(rfl)
theorem TH{f:dp}{fi ca:List PV}{args:List AV}{M:AV->al->Prop}:vu P (.p (.func f fi ca)) args heap M=jg P false f (fi.map .p++args++ca.map .p) heap M:=(rfl)
theorem TI{f:dp}{fi ca:List PV}{args:List AV}:vg P (.p (.func f fi ca)) args heap K=jn P f (fi.map .p++args++ca.map .p) heap K:=(rfl)
end ops
section
variable{P:dd}
@[simp] theorem aUV{b:Bool}:aK (.bool b)=.leaf:=(rfl)
@[simp] theorem aVo{k:ec}{n:Int}:aK (.int k n)=.leaf:=(rfl)
@[simp] theorem aVt{l:List Nat}:aK (.str l)=.leaf:=(rfl)
@[simp] theorem aVp:aK .aI=.leaf:=(rfl)
@[simp] theorem aVq{l:List PV}:aK (.seq l)=.leaf:=(rfl)
@[simp] theorem aVn{l:List (PV×PV)}:aK (.fu l)=.leaf:=(rfl)
@[simp] theorem aVs{u:db}{fs:List PV}:aK (.st u fs)=.agg u:=(rfl)
@[simp] theorem aUS{v:PV}:aa (.p v)=aK v:=(rfl)
@[simp] theorem aUU{u:db}{fs:List AV}:aa (.st u fs)=.agg u:=(rfl)
@[simp] theorem aUT{b v e o l:Nat}:aa (.sl b v e o l)=.leaf:=(rfl)
@[simp] theorem aTM{u:db}{fs:List PV}:cm (.st u fs)=fs:=(rfl)
theorem atH{a:List ee}{Q:PV->Prop}{s:St}:DX P a Q .ret s=∃vs,gN P s a=some vs/\∃v,fP s.heap 9 (oneOf vs)=some v/\Q v:=by simp[DX]
theorem Ym{a:List ee}{Q:PV->Prop}{s:St}:DX P a Q .normal s=∃vs,gN P s a=some vs/\∃v,fP s.heap 9 (oneOf vs)=some v/\Q v:=by simp[DX]
attribute [simp] atH Ym kZ RX QR RY Vj QP RZ QQ Vk QS R0 M9 OC Px Ny P3 Ry Rd RW QO RU QM PC PB
 S2 PY S0 Ro TK Rn MI SD Rk TJ TO SF O5 Nb Na Rm TL SG
 Sk Pf Si Q1 UJ Q0 MD Sl Rf UI UN Sn Of MZ MY QZ UK So TH TI Rl QX PW Pc Nr MW PX Pe Le QY S1 Sj Ns MX Nv NZ TN UM TM UL O4 OQ PZ Pg SE Sm TG SH sY mO s9 vA pB A6 sf lB nq qI u7 vF vH copyV uW mT jb ez fZ fY ld pA oO xN gk jM oh ZN asa
 XB YW Z0 Xp Ya ZE
 aQ put j0 ev ofConst bA ij jd rj fX ng ia jv fq vD vk yu lj vh uv lh yB Jg wE vt uL vo wo tu sZ sD sC lenOf jj jK n9 bU
 pC gN tf oneOf fP
end
end Go.ag
