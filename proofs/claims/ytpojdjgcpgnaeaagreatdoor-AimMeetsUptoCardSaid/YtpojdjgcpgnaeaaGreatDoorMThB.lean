import Derived.Test.YtpojdjgcpgnaeaaGreatDoorMThA
import Derived.Laws.StructEq
import Derived.Laws.Concat
import Derived.ChangeKeysEq
import Derived.MapKept
import Derived.Laws.RangeString
import Derived.Lib.UnsafeStr
import Derived.Laws.BytesArg
import Derived.Orders
/- Parts of a proof. -/
set_option linter.unusedSimpArgs false
set_option linter.unusedVariables false
set_option linter.unusedSectionVars false
open Array renaming getElem?_eq_some_iff->b0, getElem?_eq_getElem->b1, ext'->b2, replicate->b3, getElem?_toList->b4, length_toList->b5, getD_eq_getD_getElem?->ca, getElem?_push->cb, toList_push->cc
open BitVec renaming ofInt->ck
open Bool renaming and_eq_true->cx, cond_eq_ite->cy, false_eq_true->c6, or_eq_true->c9
open Go renaming Program->da, TypeId->db, run_underlying->dg, Value->dl, Operand->dp, FuncId->dq, World->dx, execOp->dy, MapEntry->dz, IntKind->ea, BinOp->eb, Frame->ec, Field->ed, Deferred->ee, step_leave_returned->ei, mem_ready->ej, setRow_other->ek, setRow_heap->em, getD_set_ne->en, Steps->eo
open Go.Builtin renaming firstCells->eq, min2->er, max2->ew, zeroCells->ey, unsafeString_->eP, min_->e7, max_->e8
open Go.ByteArray renaming toList_eq->e9
open Go.Call renaming operands->fa
open Go.Instr renaming findAsking->fb, findNow->fd, findKey->fi, checkKey->fl, sameNow->fm, mapUpdate->fp, lookup->fv, next->gb
open Go.MapKept renaming run_getObj_map->gc, bytes_beq->ge
open Go.Op renaming operands->gg, equalIn->gi, equal->gj, bytesLess->gm, eqFields->gt, eqItems->gx, stringOp->gy
open Go.Region renaming ready->gU, wanted->g8, binds->g9, schedule->hd
open Go.Region.linearise renaming go->ht
open Go.Result renaming andThen_ok->hw, andThen->hC
open Go.Sem renaming run_bind->hD, run_pure->hE, run->hF
open Go.Steps renaming one->hG, trans->hH, refl->hJ
open Go.Utf8 renaming decode->hK
open Go.Value renaming oneCell'->hM, int->hN
open Int renaming natCast_nonneg->hO, toNat_natCast->hP
open List renaming getElem?_eq_some_iff->hQ, getElem?_eq_getElem->hR, getElem?_set_self->hS, length_append->hT, mem_cons->hU, replicate->hV, map_cons->hW, append_nil->hX, map_eq_cons_iff->hZ, getElem?_set_ne->h0, range->h5, mem_cons_of_mem->h6, all_eq_true->h7, map_append->h8, contains_iff_mem->h9, any_eq_true->ih, mem_iff_getElem->ii, map_eq_nil_iff->ik, append_assoc->ip, take_of_length_le->ix, getElem?_eq_none->iy, mem_of_mem_take->i0, mem_of_getElem?->i4, replicate_succ->i5, mem_map_of_mem->i6, length_pos_iff->i7, size_toArray->i8, map_nil->i9, isEmpty_cons->jh, map_id->jp, of_mem_zip->js, nodup_cons->j0, mem_append->j1, length_map->j2, getElem?_append_left->j3, mem_map->j4, map_map->j5, mem_append_right->j6, mem_of_mem_drop->j7, map->j8, take_succ_cons->j9, map_congr_left->kb, flatten_append->kc, mem_singleton->kk, mem_range'_1->km, countP_congr->ko, range'_succ->kp, nodup_range->kr, map_toArray->kv, length_drop->kw, getElem_mem->ky, countP_cons->la, nil_append->lb, drop_zero->lc, sum_cons->le, range'->li, length->lk
open Nat renaming le_refl->ll, ble->lm, beq->lq, lt_irrefl->ls, lt_trichotomy->lt, zero_add->lu, ble_eq_true_of_le->lv, zero_le->lw, add_mul->lz, strongRecOn->l0, zero_mul->l3, succ_mul->l4, sub_zero->l5, ne_of_lt->mb, le_total->md, beq_refl->me
open Ne renaming symm->mj
open Option renaming ite_none_right_eq_some->mm, isSome_iff_exists->mo, getD_some->mp
open Option.some renaming injEq->ms, inj->mt
open PUnit renaming unit->mx
namespace Go.az
set_option linter.unusedSectionVars false
variable[Gl]
section
variable{P:da}{w:dx}{aa ag:Nat->Prop}{β:Bd}{H:ah}
variable{o:Oper}{ρ:dp->AV}{base:Nat}
theorem zP{c:Call}{s x:dp}(D:o.op= .call c)(hc:c.callee= .builtin .append)(y:c.args.toList=[s,x]){T X e:db}(I:c.argTypes=#[T,X]){i:TypeInfo}{j:dl}{sz:Nat}(u:sB P T sz e i)(v:je P X=true)
 (hz:i.zero=some j)(L:j.cells.size=sz)(F:cj P w aa β H ag){g:dp->dl}{p:Option Addr}{b f:Nat}{olds a:List AV}{ocss:List (List dl)}(hs:g s=.slice p b f)(m:olds.length=b)(l:Row P w aa β H sz olds ocss)(E:aZ (aN H) olds)
 (C:(eq sz b (.slice p b f)).run P w.drew=.ok ocss.flatten.toArray w.drew)
 (hx:jL H (ρ x)=some a)(K:aC P w aa β H (ρ x) (g x))(J:aH (aN H) (ρ x))(G:gf P sz a)(A:f<b+a.length)(B:b+a.length<=dc):
 ∃cap cells d M,(dy g o).run P w=.ok (.value (.slice (some ⟨w.heap.size,0,none⟩) (b+a.length) cap)) {w.drew with heap:=w.heap.push (.cells cells e)}/\
  Row P w aa β H sz (olds++a) d/\aZ (aN H) (olds++a)/\cells.toList=d.flatten++M/\cells.size=cap*sz/\(olds++a).length<=cap:=by
 obtain⟨d,h,q,r,t⟩:=AP hx F K J G;have k:=t w.drew rfl a.length (ll _);have N:d.length=a.length:=(jb h).1;rw[ix o_]at k;obtain⟨cap,z,n⟩:=Xt u v hz o.type (sLen:=b) (sCap:=f) (p:=p) (g x) r C k A B;rw[<-I,<-hs]at n;refine⟨cap,_,ocss++d,(ey j.cells (cap-(b+a.length))).toList,zZ D hc y n,qE.2 ⟨_,_,rfl,l,h⟩,nZ E q,s_,?_,by simpa[m]using z⟩;have e1:=(jb l).2;have e2:=(jb h).2;simp only[Array.size_append,i8,Va,L,e1,e2,m,<-lz];congr 1;omega
theorem vI{T:db}:gk P T≠.frozen/\gk P T≠.exact:=by
 unfold gk;split<;>simp
theorem Gb{T e:db}(h:fw P T=e)(hk:gk P T=.bytes):e=Gl.u8:=by
 unfold gk at hk
 split at hk
 ·rename_i a;rw[<-h];exact a
 ·cases hk
theorem D9{_o':Obj}{k:AK}{a:List AV}{b:List (List dl)}{r:List dl}{cells:Array dl}{e:db}{cap sz:Nat}(j:cj P w aa β H ag)(c:H[base]?=some .hole)
 (g:k≠.frozen)(i:¬dQ k a)(m:Row P w aa β H sz a b)(d:aZ (aN H) a)(hc:cells.toList=b.flatten++r)(o:cells.size=cap*sz)(h:a.length<=cap)(f:k=.exact->cap=a.length)(p:k=.bytes->e=Gl.u8):
 cd P ag aa w β H aa {w.drew with heap:=w.heap.push (.cells cells e)} (β.at base w.heap.size cap) (bt H ([]++newAt base [.arr k 0 sz a]))/\
 aC P {w.drew with heap:=w.heap.push (.cells cells e)} aa (β.at base w.heap.size cap) (bt H ([]++newAt base [.arr k 0 sz a])) (.sl base 0 sz 0 a.length) (.slice (some ⟨w.heap.size,0,none⟩) a.length cap)/\
 aH (aN (bt H ([]++newAt base [.arr k 0 sz a]))) (.sl base 0 sz 0 a.length):=by
 have l:cj P w.drew aa β H ag:=cj.Aq (w:=w) (w':=w.drew) rfl j;have n:Row P w.drew aa β H sz a b:=Row.mono (w:=w) (w':=w.drew) (fun _ x=>x) (fun _ _=>rfl) (cK.refl _ _) d m;obtain⟨q1,q⟩:=DH (T:=e) (k:=k) l c g i n d hc o h f p;rw[mU];exact⟨cd.drew (w1:=w.drew) rfl ⟨rfl,rfl⟩ q1,q,⟨_,hS (hQ.1 c).1,ll _⟩⟩
theorem ME{b:Nat}{k k':AK}{aE al:Nat}{i es':List AV}{aw cap:Nat}(f:H[b]?=some (.arr k aE al i)):cK β H (β.at b aw cap) (H.set b (.arr k' (aE+1) al es')):=by
 have j:b<H.length:=(hQ.1 f).1;have d:∀x,x≠b->(H.set b (.arr k' (aE+1) al es'))[x]?=H[x]?:=fun x hx=>h0 (mj hx);have c:(H.set b (.arr k' (aE+1) al es'))[b]?=some (.arr k' (aE+1) al es'):=hS j;refine⟨?_,?_⟩
 ·rintro k x _ ⟨n,h,e⟩
  by_cases hx:x=b
  ·subst hx;rw[c]at h;cases h;cases e
  ·rw[d x hx]at h;exact⟨⟨n,h,e⟩,by simp[Bd.at,hx]⟩
 ·intro x v z m g hi h;unfold iD at h
  by_cases hx:x=b
  ·subst hx;rw[c]at h;cases h;obtain⟨o,a,l⟩:=hi;simp only at a;rw[f]at a;cases a;simp only[Obj.has]at l;omega
  ·rw[d x hx]at h;exact⟨m,g,h,ll _,Iff.rfl,fun _=>by simp[Bd.at,hx]⟩
theorem Bd.XW(β:Bd)(b:Nat):β.at b (β.aw b) (β.cap b)=β:=by
 cases β with
 |mk aw cap=>
  simp only[Bd.at,Bd.mk.injEq];constructor
  ·funext x;split
   ·rename_i h;rw[h]
   ·rfl
  ·funext x;split
   ·rename_i h;rw[h]
   ·rfl
theorem UT{α:Type}(A M Z X:List α):(A++M++Z).take A.length++X++(A++M++Z).drop (A.length+M.length)=A++X++Z:=by
 rw[ip A M Z,List.take_left,<-ip,<-hT,List.drop_left]
theorem XI{c:Call}{s x:dp}(V:o.op= .call c)(hc:c.callee= .builtin .append)(U:c.args.toList=[s,x])(bI:c.argTypes.size=2){H0:ah}{K:aY->Prop}
 (h:pC P (c.argTypes.getD 0 0) (c.argTypes.getD 1 0) H0 (ρ s) (ρ x) K):
 ∃e,K e/\bF P o ρ H0.length e/\(∀p∈e.aA,H0[p.1]?=some p.2)/\(∀p∈e.aO,p.1<H0.length/\p.2≠.hole):=by
 obtain⟨T,X,R⟩:∃T X,c.argTypes=#[T,X]:=by
  obtain⟨l,G⟩:∃l,l=c.argTypes.toList:=⟨_,rfl⟩
  have ac:l.length=2:=by rw[G];simpa using bI
  match l,ac with
  |[a,b],_=>exact⟨a,b,by apply b2;simp[<-G]⟩
 have A:s∈o.op.operands/\x∈o.op.operands:=by
  have bs:c.args=#[s,x]:=by apply b2;simpa using U
  rw[V];simp[gg,fa,hc,bs]
 have e1:c.argTypes.getD 0 0=T:=by rw[R];rfl
 have e2:c.argTypes.getD 1 0=X:=by rw[R];rfl
 rw[e1,e2]at h;unfold pC at h
 split at h
 case h_2=>exact h.elim
 rename_i sz g E hx;obtain⟨ad,hz,af,h⟩:=h;obtain⟨e,i,E⟩:=nY E;obtain⟨z,hz⟩:=mo.1 hz;obtain⟨bQ,bN,z1,z2,z3,z4⟩:=uI hz;rw[E.ue]at z1 z4;rw[E.info]at z1;cases z1;have aP:bN.cells.size=sz:=by
  obtain⟨_,i2,k1,k2⟩:=zQ (v:=.p z) (w:=default) (aa:=fun _=>False) (β:=⟨id,id⟩) (H:=[]) z4 (by simp only[bB];exact z3 _ _);rw[E.info]at k1;cases k1;have:=E.size;simp at k2;omega
 have a4:∀{aA:List (Nat×Obj)},(∀p∈dR H0 (ρ x),p∈aA)->(∀p∈aA,H0[p.1]?=some p.2)->g=[]->(∀(H:ah)(w:dx)(aa ag:Nat->Prop)(β:Bd)(v:dl),cj P w aa β H ag->(∀p∈aA,H[p.1]?=some p.2)->aC P w aa β H (ρ s) v->∃p a b,v= .slice p a b/\a<=b)->
  bF P o ρ H0.length {v:=ρ s,aA}:=by
  intro aA bH ao bJ bE;subst bJ;refine bF.same fun H w aa ag β an f j aA=>?_;obtain⟨p,a,b,t,br⟩:=bE H w aa ag β _ f aA (j s A.1).1;obtain⟨D,B,ac,bo,bp⟩:=AP (rX hx (fun p t=>aA p (bH p t))) f (j x A.2).1 (j x A.2).2 af;have a8:=bp w rfl 0 (ll _);simp only[List.take_zero,List.flatten_nil]at a8;have Q:=Wr E ad o.type (p:=p) (sLen:=a) (sCap:=b) _ bo a8 br;rw[<-R,<-t]at Q;exact⟨_,zZ V hc U Q,by rw[t];exact t▸(j s A.1).1,(j s A.1).2⟩
 have a3:∀l:List AV,l.isEmpty=true->l=[]:=fun l h=>by simpa using h
 split at h
 ·
  rename_i hs
  split at h
  ·rename_i F;refine⟨_,h,?_,qI,s_⟩;exact a4 (fun p t=>t) qI (a3 _ F) (fun H w aa ag β v _ _ u=>by rw[hs]at u;simp only[aC,aF]at u;exact⟨_,_,_,u,ll _⟩)
  ·rename_i F;obtain⟨be,h⟩:=h;refine⟨_,h,?_,qI,s_⟩;intro H w aa ag β an f j aA ay;have ae:H[H0.length]?=some .hole:=by simpa using ay 0 s_
   have O:=(j s A.1).1;rw[hs]at O;simp only[aC,aF]at O;have bg:0<g.length:=i7.2 (by simpa using F);obtain⟨cap,cells,D,C,r1,ai,Z,aj,ak,am⟩:=zP V hc U R E ad z2 aP f O (olds:=[]) (ocss:=[]) rfl (iS.2 rfl) (by simp[aZ]) (by simp[eq])
    (rX hx aA) (j x A.2).1 (j x A.2).2 af o_ o_
   obtain⟨q1,W,Y⟩:=D9 (base:=H0.length) (k:=gk P T) (e:=e) (_o':=.hole) f ae vI.1 (fun hn=>F (by simpa using hn.2)) ai Z aj ak am (fun h=>(vI.2 h).elim) (Gb E.ue);simp only[lb,lu]at r1 q1 W Y;exact⟨_,_,_,_,aa,r1,.inl rfl,q1,W,Y⟩
 ·
  rename_i full d hs;obtain⟨bu,h⟩:=h
  have O:∀{H:ah}{w:dx}{aa:Nat->Prop}{β:Bd}{v:dl},aC P w aa β H (ρ s) v->∃p c M,v= .slice p d.length c/\d.length<=c/\(full=true->c=d.length)/\Row P w aa β H sz (d.map .p) M/\
   (∀w':dx,w'.heap=w.heap->(eq sz d.length v).run P w'=.ok M.flatten.toArray w'):=by
   intro H w aa β v u;rw[hs]at u;simp only[aC,aF]at u;obtain⟨aw,off,cap,al,D,v1,v2,v3,v4,v5,sp,bG,rfl⟩:=u;rcases bG with rfl|rfl
   case inr=>
    obtain rfl:d=[]:=List.length_eq_zero_iff.1 o_;exact⟨_,_,[],rfl,s_,s_,iS.2 rfl,fun w' _=>Dm⟩
   have aD:Row P w aa β H al (d.map .p) D:=nr.2 v1;have bk:Row P w aa β H sz (d.map .p) D:=by
    by_cases bf:d.map AV.p=[]
    ·rw[bf]at aD⊢;rw[iS]at aD⊢;exact aD
    ·rw[<-u6 aD bu bf];exact aD
   refine⟨_,_,D,rfl,v5,v4,bk,fun w' a2=>wW (by have:=(jb bk).2;simpa using this) (v3.same (by rw[a2]))⟩
  split at h
  ·rename_i F;refine⟨_,h,?_,qI,s_⟩;exact a4 (fun p t=>t) qI (a3 _ F) (fun H w aa ag β v _ _ u=>by obtain⟨p,c,_,B,ac,_⟩:=O u;exact⟨p,_,c,B,ac⟩)
  ·rename_i F;obtain⟨hf,be,h⟩:=h;refine⟨_,h,?_,qI,s_⟩;intro H w aa ag β an f j aA ay;have ae:H[H0.length]?=some .hole:=by simpa using ay 0 s_
   have bg:0<g.length:=i7.2 (by simpa using F);obtain⟨p,cp,M,s1,s2,bL,bM,bn⟩:=O (j s A.1).1;rw[s1]at bn;obtain⟨cap,cells,D,C,r1,ai,Z,aj,ak,am⟩:=zP V hc U R E ad z2 aP f s1 (olds:=d.map .p) s_ bM (jM _ _) (bn w.drew rfl)
    (rX hx aA) (j x A.2).1 (j x A.2).2 af (by have:=bL hf;omega) o_
   obtain⟨q1,W,Y⟩:=D9 (base:=H0.length) (k:=gk P T) (e:=e) (_o':=.hole) f ae vI.1 (fun hn=>F (by have:=hn.2;simp at this;simp[this.2])) ai Z aj ak am (fun h=>(vI.2 h).elim) (Gb E.ue);simp only[hT,j2]at W Y;exact⟨_,_,_,_,aa,r1,.inl rfl,q1,W,Y⟩
 ·
  rename_i b aE al off len hs
  split at h
  case h_2=>exact h.elim
  rename_i k bR bO d a0;obtain⟨rfl,rfl,rfl,hlen,h⟩:=h;have ao:∀p∈(b,Obj.arr k aE al d)::dR H0 (ρ x),H0[p.1]?=some p.2:=by
   intro p t;rcases hU.1 t with rfl|t
   ·exact a0
   ·exact qI p t
  have O:∀{H:ah}{w:dx}{aa ag:Nat->Prop}{β:Bd}{v:dl},cj P w aa β H ag->H[b]?=some (.arr k aE al d)->aC P w aa β H (ρ s) v->
   (dQ k d/\v=.slice none 0 0/\len=0)\/(¬dQ k d/\v=.slice (some ⟨β.aw b,off*al,none⟩) len (β.cap b-off)/\
   ∃cs T D C,w.heap[β.aw b]?=some (.cells cs T (0,0))/\Row P w aa β H al d D/\cs.toList=D.flatten++C/\
   cs.size=β.cap b*al/\d.length<=β.cap b/\(k=.exact->β.cap b=d.length)/\dD aa β ag (k== .frozen) b/\(k=.bytes->T=Gl.u8)):=by
   intro H w aa ag β v f q u;rw[hs]at u;simp only[aC,bX,cg]at u;obtain⟨_,v2,v3⟩:=u.2 k d q
   by_cases hn:dQ k d
   ·exact .inl ⟨hn,v2 hn,by have:=hn.2;subst this;simp at hlen;omega⟩
   ·rcases f.du b _ q with hold|⟨cs,N,D,C,k1,k2,k3,k4,k5,k6,k7,k8⟩
    ·exact(hn hold).elim
    ·exact .inr ⟨hn,v3 hn,cs,N,D,C,k1,k2,k3,k4,k5,k6,k7,k8.2⟩
  have holds:∀{H:ah}{w:dx}{aa:Nat->Prop}{β:Bd}{cs:Array dl}{N:db}{D:List (List dl)}{C:List dl},w.heap[β.aw b]?=some (.cells cs N (0,0))->Row P w aa β H al d D->cs.toList=D.flatten++C->
   ∃M,Row P w aa β H al ((d.drop off).take len) M/\∀(w':dx)(n c:Nat),w'.heap=w.heap->(eq al len (.slice (some ⟨β.aw b,off*al,none⟩) n c)).run P w'=.ok M.flatten.toArray w':=by
   intro H w aa β cs N D C k1 k2 k3;obtain⟨a,m,z,g1,g2,g3,g4,g5⟩:=n6 k2 off len hlen;refine⟨m,g2,fun w' n c a2=>wW (by have:=(jb g2).2;rw[this];congr 1;simp;omega) ?_⟩;have:=mZ k1 (pre:=a.flatten) (xs:=m.flatten) (post:=z.flatten++C) (by rw[k3,g1];simp);rw[g3]at this;exact this.same (by rw[a2])
  split at h
  ·rename_i F;refine⟨_,h,?_,ao,s_⟩;refine a4 (fun p t=>h6 _ t) ao (a3 _ F) (fun H w aa ag β v f aA u=>?_);rcases O f (aA (b,_) s_) u with⟨_,B,_⟩|⟨hn,B,cs,N,D,C,ac⟩
   ·exact⟨_,_,_,B,ll _⟩
   ·exact⟨_,_,_,B,o_⟩
  ·rename_i F;have bg:0<g.length:=i7.2 (by simpa using F);obtain⟨be,h⟩:=h
   split at h
   ·exact h.elim
   ·
    split at h
    ·rename_i aq;refine⟨_,h,?_,ao,by simpa using(hQ.1 a0).1⟩;intro H w aa ag β an f j aA _;have q:H[b]?=some (.arr .exact aE al d):=aA (b,_) s_;rcases O f q (j s A.1).1 with⟨hn,_⟩|⟨hn,B,cs,N,D,C,k1,k2,k3,k4,k5,k6,k7,k8⟩
     ·cases hn.1
     obtain⟨J,x1,x2,x3,x4⟩:=AP (rX hx (fun p t=>aA p (h6 _ t))) f (j x A.2).1 (j x A.2).2 af;have x5:=x4 w rfl g.length (ll _);rw[ix (by have:=(jb x1).1;omega)]at x5;have bc:=k6 rfl;obtain⟨a,m,ab,g1,g2,g3,g4,g5⟩:=n6 k2 (off+len) g.length aq;have ar:=(jb x1).2;have ap:m.flatten.length=g.length*al:=by have:=(jb g2).2;rw[this];congr 1;simp;omega
     have aJ:cs.toList=a.flatten++m.flatten++(ab.flatten++C):=by rw[k3,g1];simp
     have bb:a.flatten.length=off*al+len*al:=by rw[g3,lz]
     have bl:cs.size=a.flatten.length+m.flatten.length+(ab.flatten++C).length:=by
      have:=congrArg lk aJ;simp only[hT,b5]at this;rw[this,hT]
     have Q:=KI E ad o.type (sLen:=len) (sCap:=β.cap b-off) _ x3 k1 x5 (D8 x1) o_ (by rw[ar,bl,bb,ap];exact Nat.le_add_right _ _);rw[<-R,<-B]at Q;have ba:cs.toList.take (off*al+len*al)++J.flatten++cs.toList.drop (off*al+len*al+J.flatten.length)=a.flatten++J.flatten++(ab.flatten++C):=by
      rw[aJ,<-bb,ar,<-ap];exact UT _ _ _ _
     rw[ba]at Q;have aS:cK β H β (H.set b (.arr .exact aE al (d.take (off+len)++g++d.drop (off+len+g.length)))):=IA q (by simp;omega);have ax:¬aa (β.aw b)/\¬ag (β.aw b):=by
      unfold dD at k7;rw[if_neg s_]at k7;exact k7
     have a1:∀I,aa I->(w.setRow (β.aw b) (a.flatten++J.flatten++(ab.flatten++C)).toArray).heap[I]?=w.heap[I]?:=fun I aV=>ek w _ I _ (fun aU=>ax.1 (aU▸aV));have hrefs:aZ (aN H) (d.take (off+len)++g++d.drop (off+len+g.length)):=by
      have bh:=dP.1 (f.refs b _ q);refine nZ (nZ ?_ x2) ?_
      ·rw[dP];exact fun v u=>bh v (i0 u)
      ·rw[dP];exact fun v u=>bh v (j7 u)
     have aK:=pF q (o:=.arr .exact aE al (d.take (off+len)++g++d.drop (off+len+g.length))) (fun _ h=>h);have aW:(d.take (off+len)++g++d.drop (off+len+g.length)).length=d.length:=by simp;omega
     have aB:=wX f q hn (o':=.arr .exact aE al (d.take (off+len)++g++d.drop (off+len+g.length))) (fun S=>by cases S.1) (fun _ h=>h) k1 (new:=(a.flatten++J.flatten++(ab.flatten++C)).toArray) ax aS
      (.inr ⟨_,N,a++J++ab,C,em w _ _ _ N _ k1,by
       refine Row.mono (fun _ x=>x) a1 aS hrefs (qE.2 ⟨_,_,rfl,qE.2 ⟨_,_,rfl,g4,x1⟩,g5⟩),s_,by
       rw[<-k4,bl];simp only[i8,hT,ar,ap],by rw[aW];exact k5,fun _=>by rw[aW];exact bc,k7,(fun aL=>by cases aL),k8⟩) (aZ.mono aK _ hrefs)
     refine⟨_,_,_,β,aa,zZ V hc U Q,.inl rfl,aB,?_,?_⟩
     ·simp only[aC,bX,cg,bt,newAt,hX];refine⟨by simp[hM],fun I a6 G=>?_⟩;unfold iD at G;rw[hS (hQ.1 q).1]at G;cases G;exact⟨by rw[aW];omega,(fun S=>by cases S.1),fun _=>trivial⟩
     ·simp only[aH];exact⟨_,hS (hQ.1 q).1,ll _⟩
    ·rename_i aq;refine⟨_,h,?_,ao,s_⟩;intro H w aa ag β an f j aA ay;have ae:H[H0.length]?=some .hole:=by simpa using ay 0 s_
     have q:H[b]?=some (.arr .exact aE al d):=aA (b,_) s_;rcases O f q (j s A.1).1 with⟨hn,_⟩|⟨hn,B,cs,N,D,C,k1,k2,k3,k4,k5,k6,k7,k8⟩
     ·cases hn.1
     have bc:=k6 rfl;obtain⟨M,aI,aQ⟩:=holds k1 k2 k3;have bd:((d.drop off).take len).length=len:=by simp;omega
     obtain⟨cap,cells,a5,bm,r1,ai,Z,aj,ak,am⟩:=zP V hc U R E ad z2 aP f B (olds:=(d.drop off).take len) bd aI
      (by rw[dP];exact fun v u=>dP.1 (f.refs b _ q) v (j7 (i0 u))) (aQ w.drew _ _ rfl)
      (rX hx (fun p t=>aA p (h6 _ t))) (j x A.2).1 (j x A.2).2 af o_ o_
     obtain⟨q1,W,Y⟩:=D9 (base:=H0.length) (k:=gk P T) (e:=e) (_o':=.hole) f ae vI.1 (fun hn=>F (by have:=hn.2;simp at this;simp[this.2])) ai Z aj ak am (fun h=>(vI.2 h).elim) (Gb E.ue);rw[hT,bd]at W Y;exact⟨_,_,_,_,aa,r1,.inl rfl,q1,W,Y⟩
   ·
    rename_i bw bx;obtain⟨rfl,bz,h⟩:=h;have az:k≠.frozen:=fun e=>bw e;have aL:k≠.exact:=fun e=>bx e;have bP:(k==AK.frozen)=false:=by simpa using az
    refine⟨_,h,?_,ao,by simpa using(hQ.1 a0).1⟩;intro H w aa ag β an f j aA _;have q:H[b]?=some (.arr k aE al d):=aA (b,_) s_;have au:b<H.length:=(hQ.1 q).1;have aO:(d.take len).length=len:=by simp;omega
    have bj:aZ (aN H) (d.take len):=by rw[dP];exact fun v u=>dP.1 (f.refs b _ q) v (i0 u)
    have aX:¬dQ k (d.take len++g):=fun S=>F (by have:=S.2;simp at this;simp[this.2]);have aK:=pF q (o:=.arr k (aE+1) al (d.take len++g)) (fun v h=>by simp only[Obj.has]at h⊢;omega)
    have a7:∀(p:Option Addr)(aT:Nat)(M:List (List dl)),an s= .slice p len aT->Row P w aa β H al (d.take len) M->(eq al len (.slice p len aT)).run P w.drew= .ok M.flatten.toArray w.drew->aT<len+g.length->
     ∃n cv w' aM aG,(dy an o).run P w=.ok n w'/\(n=.value cv\/n=.skip/\cv=undef)/\
      cd P ag aa w β H aG w' aM (H.set b (.arr k (aE+1) al (d.take len++g)))/\aC P w' aG aM (H.set b (.arr k (aE+1) al (d.take len++g))) (.sl b (aE+1) al 0 (len+g.length)) cv/\
      aH (aN (H.set b (.arr k (aE+1) al (d.take len++g)))) (.sl b (aE+1) al 0 (len+g.length)):=by
     intro p aT M B bC bA bv;obtain⟨cap,cells,a5,bm,r1,ai,Z,aj,ak,am⟩:=zP V hc U R E ad z2 aP f B (olds:=d.take len) aO bC bj bA
      (rX hx (fun p t=>aA p (h6 _ t))) (j x A.2).1 (j x A.2).2 af bv o_
     have aS:=ME (β:=β) (k':=k) (es':=d.take len++g) (aw:=w.heap.size) (cap:=cap) q;have aB:cd P ag aa w β H aa {w.drew with heap:=w.heap.push (.cells cells e)} (β.at b w.heap.size cap) (H.set b (.arr k (aE+1) al (d.take len++g))):=by
      refine cd.set f au (fun y bK=>by simp[Bd.at,bK]) (fun _ y=>y) (fun _ y=>.inl y) (fun k hk=>by have:=f.b8 k hk;simp;omega) s_
       (fun k _ hk=>by simp[cb,mb hk]) (fun _=>.inl (by simp[Bd.at])) aS
       (.inr ⟨cells,e,a5,bm,by simp[Bd.at],Row.mono (fun _ y=>y) (fun k hk=>by have:=f.b8 k hk;simp[cb,mb this]) aS Z ai,aj,by simp[Bd.at,ak],by simpa[Bd.at]using am,(fun av=>(aL av).elim),by
        unfold dD;rw[if_neg (by simpa using az)];simp only[Bd.at,if_true];exact⟨fun h=>ls _ (f.b8 _ h),fun h=>ls _ (f.fg _ h)⟩,(fun av=>(az av).elim),fun ae=>E.ue▸bz ae⟩)
       (aZ.mono aK _ Z) (fun aI v B ac=>by rw[q]at B;cases B;simp only[Obj.has]at ac⊢;omega) (fun L a9=>by rw[q]at a9;cases a9)
     refine⟨_,_,_,_,aa,r1,.inl rfl,aB,?_,?_⟩
     ·simp only[aC,bX,cg];refine⟨by simp[hM],fun I a6 G=>?_⟩;unfold iD at G;rw[hS au]at G;cases G;exact⟨by rw[hT,aO];omega,fun S=>(aX S).elim,fun _=>by simp[Bd.at]⟩
     ·simp only[aH];exact⟨_,hS au,ll _⟩
    simp only[bt,newAt,hX];rcases O f q (j s A.1).1 with⟨hn,B,rfl⟩|⟨hn,B,cs,N,D,C,k1,k2,k3,k4,k5,k6,k7,k8⟩
    ·exact a7 none 0 [] B (by simp[iS]) (by simp[eq]) o_
    ·simp only[l3,l5]at B
     by_cases aq:len+g.length<=β.cap b
     ·
      obtain⟨J,x1,x2,x3,x4⟩:=AP (rX hx (fun p t=>aA p (h6 _ t))) f (j x A.2).1 (j x A.2).2 af;have x5:=x4 w rfl g.length (ll _);rw[ix (by have:=(jb x1).1;omega)]at x5;obtain⟨a,m,ab,g1,g2,g3,g4,g5⟩:=n6 k2 0 len hlen;have bq:a=[]:=by have:=(jb g4).1;simpa using this
      subst bq;have ar:=(jb x1).2;have ap:m.flatten.length=len*al:=by have:=(jb g2).2;rw[this];congr 1
      have aJ:cs.toList=m.flatten++(ab.flatten++C):=by rw[k3,g1];simp
      have bD:=Nat.mul_le_mul_right al aq;rw[lz]at bD;have Q:=KI E ad o.type (off:=0) (sLen:=len) (sCap:=β.cap b) _ x3 k1 x5 (D8 x1) aq (by rw[ar,k4];omega);rw[<-R,<-B]at Q;obtain⟨aR,bi⟩:∃r,r=cs.toList.drop (len*al+J.flatten.length):=⟨_,rfl⟩
      have ba:cs.toList.take (0+len*al)++J.flatten++cs.toList.drop (0+len*al+J.flatten.length)=(m++J).flatten++aR:=by
       rw[lu,<-bi];congr 1;rw[aJ,<-ap];simp
      rw[ba]at Q;have ax:¬aa (β.aw b)/\¬ag (β.aw b):=by
       unfold dD at k7;rw[if_neg (by simpa using az)]at k7;exact k7
      have aS:cK β H β (H.set b (.arr k (aE+1) al (d.take len++g))):=by
       have:=ME (β:=β) (k':=k) (es':=d.take len++g) (aw:=β.aw b) (cap:=β.cap b) q
       rwa [Bd.XW]at this
      have a1:∀I,aa I->(w.setRow (β.aw b) ((m++J).flatten++aR).toArray).heap[I]?=w.heap[I]?:=fun I aV=>ek w _ I _ (fun aU=>ax.1 (aU▸aV));have hrefs:aZ (aN H) (d.take len++g):=nZ bj x2;have aB:=wX f q hn (o':=.arr k (aE+1) al (d.take len++g)) aX (fun v h=>by simp only[Obj.has]at h⊢;omega) k1 (new:=((m++J).flatten++aR).toArray) ax aS
       (.inr ⟨_,N,m++J,aR,em w _ _ _ N _ k1,by
        refine Row.mono (fun _ x=>x) a1 aS hrefs (qE.2 ⟨_,_,rfl,?_,x1⟩);simpa using g2,s_,by
        rw[<-k4];simp only[i8,hT,kc,ar,ap,bi,kw,b5,k4];omega,by rw[hT,aO];exact aq,(fun av=>(aL av).elim),k7,(fun h=>(az h).elim),k8⟩) (aZ.mono aK _ hrefs)
      refine⟨_,_,_,β,aa,zZ V hc U Q,.inl rfl,aB,?_,?_⟩
      ·simp only[aC,bX,cg];refine⟨by simp[hM],fun I a6 G=>?_⟩;unfold iD at G;rw[hS au]at G;cases G;exact⟨by rw[hT,aO];omega,fun S=>(aX S).elim,fun _=>by simp⟩
      ·simp only[aH];exact⟨_,hS au,ll _⟩
     ·obtain⟨M,aI,aQ⟩:=holds k1 k2 k3;simp only[lc,l3]at aI aQ;exact a7 _ _ M B aI (aQ w.drew _ _ rfl) o_
 ·exact h.elim
end
section
variable{P:da}{w:dx}{aa ag:Nat->Prop}{β:Bd}{H:ah}
variable{o:Oper}{ρ:dp->AV}{base:Nat}
def jN(bs:ByteArray):List Nat:=bs.data.toList.map (·.toNat)
theorem Dt:∀{a b:List UInt8},a.map (·.toNat)=b.map (·.toNat)->a=b
 |[],[],_=>rfl
 |[],_::_,h=>by simp at h
 |_::_,[],h=>by simp at h
 |x::a,y::b,h=>by
  simp at h;rw[UInt8.toNat_inj.1 h.1,Dt h.2]
theorem bytes_beq(a b:ByteArray):(a.toList==b.toList)=(jN a==jN b):=by
 rw[e9,e9];unfold jN
 by_cases h:a.data.toList=b.data.toList
 ·simp[h]
 ·have d:¬(a.data.toList.map (·.toNat)=b.data.toList.map (·.toNat)):=fun c=>h (Dt c)
  rw[beq_eq_false_iff_ne.2 h,beq_eq_false_iff_ne.2 d]
theorem Kl:∀a b:List UInt8,gm a b=ka (a.map (·.toNat)) (b.map (·.toNat))
 |[],[]=>rfl
 |_::_,[]=>rfl
 |[],_::_=>rfl
 |x::a,y::b=>by
  simp only[gm,hW,ka,Kl a b];congr 1
  ·congr 1
   by_cases h:x=y
   ·simp[h]
   ·have:¬x.toNat=y.toNat:=fun c=>h (UInt8.toNat_inj.1 c);rw[beq_eq_false_iff_ne.2 h,beq_eq_false_iff_ne.2 this]
theorem aAT{c:eb}{T j:db}{x y:dp}{a b:List Nat}{K:PV->Prop}(g:o.op= .binOp c T x y j)(hx:ρ x= .p (.str a))(u:ρ y= .p (.str b))
 (h:rj c a b K)(aA:List (Nat×Obj)):∃v,K v/\bF P o ρ base {v:=.p v,aA}:=by
 have key:∀v,K v->(∀(w:dx)(aa:Nat->Prop)(s t:ByteArray),a=jN s->b=jN t->∃r,(gy c s t).run P w=.ok r w/\aF P w aa v r)->∃v,K v/\bF P o ρ base {v:=.p v,aA}:=by
  intro v q n;refine⟨v,q,bF.same fun H w aa ag β B A i _=>?_⟩;have e:=(i x (by simp[g,gg])).1;have f:=(i y (by simp[g,gg])).1;rw[hx]at e;rw[u]at f;simp only[aC,Ou]at e f;obtain⟨s,e1,e2⟩:=e;obtain⟨t,e3,e4⟩:=f;obtain⟨r,r1,z⟩:=n w aa s t e2 e4;refine⟨r,?_,by simpa only[aC]using z,by simp[aH]⟩;simp only[dy,g,e1,e3];refine fP ?_;have l:(eqGuard c T x y (.string s) (.string t)).run P w=.ok () w:=by
   unfold eqGuard
   split<;>simp
  have k:(binOp c T (.string s) (.string t)).run P w=.ok r w:=by
   cases c<;>first|(simp[rj]at h;done)|exact r1
  simp[l,k]
 have m:∀s t:ByteArray,a=jN s->b=jN t->gm s.toList t.toList=ka a b/\(s.toList==t.toList)=(a==b):=by
  intro s t hs d;rw[bytes_beq,<-hs,<-d,Kl,e9,e9];exact⟨by rw[hs,d];rfl,rfl⟩
 cases c<;>simp only[rj]at h
 case add=>
  refine key _ h.2 fun w aa s t hs d=>⟨.string (s++t),run_string_add_sum w s t ?_,?_⟩
  ·have e:a.length=s.size:=by rw[hs];simp[jN]
   have f:b.length=t.size:=by rw[d];simp[jN]
   omega
  ·rw[Ou];exact⟨_,rfl,by rw[hs,d];simp[jN,ByteArray.data_append]⟩
 case eql|neq|lss|leq|gtr|geq=>
  refine key _ h fun w aa s t hs d=>?_;obtain⟨e1,e2⟩:=m s t hs d;exact⟨_,by simp only[gy,e1,e2];rfl,by simp[aF]⟩
theorem Vw{T:db}(h:sT P T=true):P.underlying T=some .bool:=by
 unfold sT at h
 split at h
 ·assumption
 ·simp at h
theorem Kg{T:db}{a b:dl}{r:Bool}{w:dx}(h:(gj T a b).run P w= .ok r w)(d:(∃x,a= .bool x)\/(∃x,a= .agg x)\/(∃p n c,a= .slice p n c)\/(∃m,a= .map m)\/a= .nilFunc\/(∃f x y,a= .func f x y)\/(∃p,a= .pointer p)\/a= .nilIface):
 (binOp .eql T a b).run P w=.ok (.bool r) w/\(binOp .neq T a b).run P w=.ok (.bool !r) w:=by
 rcases d with⟨x,rfl⟩|⟨x,rfl⟩|⟨p,n,c,rfl⟩|⟨m,rfl⟩|rfl|⟨f,x,y,rfl⟩|⟨p,rfl⟩|rfl
 all_goals (constructor<;>(unfold binOp;simp[h]))
def kz.isAgg:kz->Bool
 | .agg _=>true
 |_=>false
theorem X1{T:db}{t:kz}(hk:kindOf P T=t)(a:t≠.bad)(w:dx):(isAgg T).run P w=.ok t.isAgg w:=by
 unfold kindOf at hk;cases hu:P.underlying T with
 |none=>rw[hu]at hk;simp at hk;exact(a hk.symm).elim
 |some d=>
  rw[hu]at hk;simp only[isAgg,hD,dg hu,hw];cases d<;>simp only at hk<;>(split at hk<;>first|(subst hk;rfl)|exact(a hk.symm).elim)
theorem sV{F:db}{v:PV}{pre c post:List dl}{cs:Array dl}(hk:kindOf P F=aL v)(b:aX P w aa v c)(e:cs.toList=pre++c++post):
 ∃x,(part F cs pre.length).run P w=.ok x w/\aF P w aa v x:=by
 obtain⟨j,i,f,g⟩:=zQ (v:=.p v) (β:=⟨id,id⟩) (H:=[]) (w:=w) (aa:=aa) hk (by simpa only[bB]using b);have d:=(sr b).2;have a:=X1 hk d w;cases hs:aL v with
 |bad=>exact(d hs).elim
 |leaf=>
  rw[hs]at a;obtain⟨x,rfl,hx⟩:=(u7 hs c).1 b;refine⟨x,?_,hx⟩;have:cs[pre.length]?=some x:=by rw[<-b4,e];simp
  simp[part,a,this,kz.isAgg]
 |agg u=>
  rw[hs]at a;refine⟨.agg c.toArray,?_,(xW hs c).1 b⟩;have h:(sizeOf F).run P w=.ok c.length w:=by simp[sizeOf,typeInfo,f,g]
  have:cs.extract pre.length (pre.length+c.length)=c.toArray:=by
   apply b2;rw[Array.toList_extract,e];simp[List.extract_eq_take_drop]
  simp[part,a,h,this,kz.isAgg]
theorem xV{n:Nat}{b:List Nat}{v:PV}{vs:List PV}{a:List (List dl)}(h:bn P w aa (n::b) (v::vs) a):∃c cs,a=c::cs/\aX P w aa v c/\c.length=n/\bn P w aa b vs cs:=by
 simpa only[bn]using h
theorem Kk{eqF:db->PV->PV->Option Bool}{d:Nat}(A:∀F a b r,eqF F a b=some r->kindOf P F=aL a->kindOf P F=aL b->∀x y,aF P w aa a x->aF P w aa b y->(gi d F x y).run P w= .ok r w){X Y:Array dl}:
 ∀(fs:List ed)(l:List Nat)(j k:List PV)(r:Bool)(h m:List dl)(o p:List (List dl)),jS P eqF (fs.map (·.type)) j k=some r->fs.all (fun f=>f.name != "_")=true->
 (∀(i:Nat)(f:ed),fs[i]?=some f->f.offset=h.length+(l.take i).sum)->bn P w aa l j o->bn P w aa l k p->h.length=m.length->
 X.toList=h++o.flatten->Y.toList=m++p.flatten->(gt d X Y fs).run P w=.ok r w
 |[],l,j,k,r,h,m,o,p,e,_,_,_,_,_,_,_=>by
  cases j<;>cases k<;>simp[jS]at e;subst e;simp[gt]
 |f::fs,l,j,k,r,h,m,o,p,e,hn,u,hx,I,z,s,hY=>by
  cases j with
  |nil=>simp[jS]at e
  |cons a j=>
   cases k with
   |nil=>simp[jS]at e
   |cons b k=>
    cases l with
    |nil=>simp[bn]at hx
    |cons n l=>
     simp only[hW,jS]at e
     split at e
     case isFalse=>simp at e
     rename_i hk
     split at e
     case h_2=>simp at e
     rename_i r1 K B C;simp at e;subst e;obtain⟨c,cs,rfl,hc,t,H⟩:=xV hx;obtain⟨c',q,rfl,D,E,J⟩:=xV I;simp only[List.all_cons,cx,bne_iff_ne]at hn;have v:f.offset=h.length:=by simpa using u 0 f s_
     obtain⟨x,x1,x2⟩:=sV hk.1 hc (pre:=h) (post:=cs.flatten) (cs:=X) (by rw[s];simp);obtain⟨y,y1,y2⟩:=sV hk.2 D (pre:=m) (post:=q.flatten) (cs:=Y) (by rw[hY];simp);have e1:=A _ _ _ _ B hk.1 hk.2 x y x2 y2;rw[<-v]at x1;rw[<-z,<-v]at y1;have L:=Kk A fs l j k K (h++c) (m++c') cs q C hn.2 (by
      intro i g G;have:=u (i+1) g (by simpa using G);rw[this,j9,le,hT,t];omega) H J (by simp[z,t,E]) (by rw[s];simp) (by rw[hY];simp)
     simp only[gt,hn.1,ne_eq,not_false_eq_true,if_true,hD,x1,y1,e1,hw];cases r1 with
     |false=>simp
     |true=>simpa using L
theorem Iq{eqF:db->PV->PV->Option Bool}{d:Nat}{e:db}(u:∀a b r,eqF e a b=some r->∀x y,aF P w aa a x->aF P w aa b y->(gi d e x y).run P w= .ok r w){X Y:Array dl}:
 ∀(n k:Nat)(g h:List PV)(r:Bool)(i j:List dl)(l m:List (List dl)),jS P eqF (hV n e) g h=some r->
 bn P w aa (hV n (P.cellsOf e)) g l->bn P w aa (hV n (P.cellsOf e)) h m->i.length=k*P.cellsOf e->j.length=k*P.cellsOf e->
 X.toList=i++l.flatten->Y.toList=j++m.flatten->(gx d e (P.cellsOf e) X Y (li k n)).run P w=.ok r w
 |0,k,g,h,r,i,j,l,m,f,_,_,_,_,_,_=>by
  cases g<;>cases h<;>simp[jS]at f;subst f;simp[gx]
 |n+1,k,g,h,r,i,j,l,m,f,hx,t,q,s,p,hY=>by
  cases g with
  |nil=>simp[i5,jS]at f
  |cons a g=>
   cases h with
   |nil=>simp[i5,jS]at f
   |cons b h=>
    rw[i5]at f hx t;simp only[jS]at f
    split at f
    case isFalse=>simp at f
    rename_i hk
    split at f
    case h_2=>simp at f
    rename_i r1 F v z;simp at f;subst f;obtain⟨c,cs,rfl,hc,B,D⟩:=xV hx;obtain⟨c',o,rfl,A,C,E⟩:=xV t;obtain⟨x,x1,x2⟩:=sV hk.1 hc (pre:=i) (post:=cs.flatten) (cs:=X) (by rw[p];simp);obtain⟨y,y1,y2⟩:=sV hk.2 A (pre:=j) (post:=o.flatten) (cs:=Y) (by rw[hY];simp);have e1:=u _ _ _ v x y x2 y2;rw[q]at x1;rw[s]at y1;have G:=Iq u n (k+1) g h F (i++c) (j++c') cs o z D E (by rw[hT,q,B,l4]) (by rw[hT,s,C,l4]) (by rw[p];simp) (by rw[hY];simp);rw[kp];simp only[gx,hD,x1,y1,e1,hw];cases r1 with
    |false=>simp
    |true=>simpa using G
theorem AX:∀(n:Nat)(T:db)(v v':PV)(r:Bool),iW P n T v v'=some r->∀x y,aF P w aa v x->aF P w aa v' y->∀d,n<=d->(gi d T x y).run P w=.ok r w
 |0,_,_,_,_,h,_,_,_,_,_,_=>by simp[iW]at h
 |n+1,T,v,v',r,h,x,y,hx,g,d,L=>by
  obtain⟨d,rfl⟩:∃e,d=e+1:=⟨d-1,o_⟩
  unfold iW at h
  split at h
  ·rename_i a b c;simp at h;subst h;simp only[aF]at hx g;subst hx;subst g;simp[gi,dg c]
  ·rename_i k0 k a M b c
   split at h
   case isFalse=>simp at h
   rename_i hk;subst hk;simp at h;subst h;simp only[aF]at hx g;subst hx;subst g;exact run_equalIn_int w d T k k0 a b c
  ·rename_i a b c;simp at h;subst h;simp only[aF]at hx g;obtain⟨s,rfl,hs⟩:=hx;obtain⟨t,rfl,H⟩:=g;rw[run_equalIn_string w d T s t c,bytes_beq,hs,H];rfl
  ·rename_i fs u A u' B c
   split at h
   case isFalse=>simp at h
   rename_i hc;obtain⟨hk,rfl,G,E⟩:=hc;simp only[aF]at hx g;obtain⟨l,j,k1,k2,rfl⟩:=hx;obtain⟨D,o,k3,k4,rfl⟩:=g;rw[k1]at k3;cases k3;obtain⟨K,D,s1,s2,q,z,N,I⟩:=xc (P:=P) (T:=T) (u:=u') (n:=fs.size) (by unfold eC;rw[hk,c]);rw[c]at s1;cases s1;rw[k1]at z;cases z;have C:P.fieldsOf T=fs:=by simp[Program.fieldsOf,c]
   rw[run_equalIn_struct w d T _ _ (by rw[C];exact c) G,C];refine Kk (eqF:=iW P n) (fun F a b r p _ _ x y hx g=>AX n F a b r p x y hx g d o_) fs.toList l A B r [] [] j o h E ?_ k2 k4 rfl s_ s_;intro i f hf;have hi:i<fs.size:=by
    have:=(hQ.1 hf).1;simpa using this
   obtain⟨J,g1,g2,_⟩:=I i hi;rw[b4,g1]at hf;cases hf;simpa using g2
  ·rename_i m e u A u' B c
   split at h
   case isFalse=>simp at h
   rename_i hc;obtain⟨hk,rfl,hi⟩:=hc;simp only[aF]at hx g;obtain⟨l,j,k1,k2,rfl⟩:=hx;obtain⟨D,o,k3,k4,rfl⟩:=g;rw[k1]at k3;cases k3;obtain⟨e',s1,s2,q,z⟩:=vf (P:=P) (T:=T) (u:=u') (n:=m) (by unfold iJ;rw[hk,c]);rw[c]at s1;cases s1;rw[k1]at q;cases q;obtain⟨i,hi⟩:=mo.1 hi;rw[run_equalIn_array w d _ _ c hi,List.range_eq_range'];exact Iq (eqF:=iW P n) (fun a b r p x y hx g=>AX n e a b r p x y hx g d o_) m 0 A B r [] [] j o h k2 k4 s_ s_ s_ s_
  ·simp at h
end
section
variable{P:da}{w:dx}{aa ag:Nat->Prop}{β:Bd}{H:ah}
variable{o:Oper}{ρ:dp->AV}{base:Nat}
theorem Fu{d:eb}{T C:db}{x y:dp}{r:Bool}{K:PV->Prop}{l:List (Nat×Obj)}(k:o.op= .binOp d T x y C)
 (D:d=.eql/\K (.bool r)\/d=.neq/\K (.bool !r))
 (I:∀(H:ah)(w:dx)(aa ag:Nat->Prop)(β:Bd)(a b:dl),cj P w aa β H ag->(∀p∈l,H[p.1]?=some p.2)->aC P w aa β H (ρ x) a->aC P w aa β H (ρ y) b->(gj T a b).run P w=.ok r w/\
  ((∃x,a=.bool x)\/(∃x,a=.agg x)\/(∃p n c,a=.slice p n c)\/(∃m,a=.map m)\/a=.nilFunc\/(∃f x y,a=.func f x y)\/(∃p,a=.pointer p)\/(a=.nilIface/\rG y=true))/\(∀u v,a=.agg u->b=.agg v->P.eqGuardType P.depth T=false)):
 ∃v,K v/\bF P o ρ base {v:=.p v,aA:=l}:=by
 have key:∀v,K v->(∀(w:dx)(a b:dl),(gj T a b).run P w= .ok r w->((∃x,a= .bool x)\/(∃x,a= .agg x)\/(∃p n c,a= .slice p n c)\/(∃m,a= .map m)\/a= .nilFunc\/(∃f x y,a= .func f x y)\/(∃p,a= .pointer p)\/a= .nilIface)->
  ∃q,v=.bool q/\(binOp d T a b).run P w=.ok (.bool q) w)->∃v,K v/\bF P o ρ base {v:=.p v,aA:=l}:=by
  intro v J hq;refine⟨v,J,bF.same fun H w aa ag β s G t aA=>?_⟩;obtain⟨r1,z,A⟩:=I H w aa ag β _ _ G aA (t x (by simp[k,gg])).1 (t y (by simp[k,gg])).1;obtain⟨q,rfl,F⟩:=hq w _ _ r1 (by rcases z with h|h|h|h|h|h|h|h<;>simp[h]);refine⟨.bool q,?_,by simp[aC,aF],by simp[aH]⟩;simp only[dy,k];refine fP ?_;have E:(eqGuard d T x y (s x) (s y)).run P w=.ok () w:=by
   rcases z with⟨p,e⟩|⟨p,e⟩|⟨p,n,c,e⟩|⟨m,e⟩|e|⟨f,L,M,e⟩|⟨p,e⟩|⟨e,hc⟩
   all_goals rw[e]at A⊢
   case inr.inl=>
    cases hy:s y with
    |agg B=>
     exact run_eqGuard_agg w d T x y p B (A p B rfl hy)
    |_=>cases d<;>rfl
   case inr.inr.inr.inr.inr.inr.inr=>
    cases y<;>simp[rG]at hc;unfold eqGuard;cases d<;>simp<;>(split<;>simp_all)
   all_goals (cases d<;>rfl)
  simp[E,F]
 rcases D with⟨rfl,j⟩|⟨rfl,j⟩
 ·exact key _ j fun w a b g i=>⟨_,rfl,(Kg g i).1⟩
 ·exact key _ j fun w a b g i=>⟨_,rfl,(Kg g i).2⟩
theorem AJ(T:db)(a b:dl):∃d,9<=d+1/\gj T a b=gi (d+1) T a b:=⟨9999,o_,rfl⟩
theorem Le{T:db}{c:Bool}{b:AV}{k:wC}(h:dF P T c b=some k):
 (k=.ptr/\b=.p .fU/\∃e,P.underlying T=some (.pointer e))\/(k=.slice/\b=.p .aK/\∃e,P.underlying T=some (.slice e))\/
 (k=.map/\b=.p .fM/\∃e f,P.underlying T=some (.map e f))\/(k=.func/\b=.p .iX/\∃e f g,P.underlying T=some (.func e f g))\/(k=.iface/\b=.p .ia/\c=true/\∃m,P.underlying T=some (.interface m)):=by
 unfold dF at h
 split at h<;>first
  |(split at h
    ·rename_i a;simp at h;subst h;simp[a]
    ·simp at h)
  |simp at h
theorem aAn{T:db}{c:Bool}{H0:ah}{a b:AV}{r:Bool}{k:wC}(hk:dF P T c b=some k)(h:cX H0 k a=some r){l q:dl}(aA:∀p∈dR H0 a,H[p.1]?=some p.2)(i:aC P w aa β H a l)(B:aC P w aa β H b q):
 (gj T l q).run P w=.ok r w/\((∃x,l=.bool x)\/(∃x,l=.agg x)\/(∃p n c,l=.slice p n c)\/(∃m,l=.map m)\/l=.nilFunc\/(∃f x y,l=.func f x y)\/(∃p,l=.pointer p)\/(l=.nilIface/\c=true))/\(∀u v,l=.agg u->q=.agg v->P.eqGuardType P.depth T=false):=by
 obtain⟨d,_,G⟩:=AJ T l q;rw[G];rcases Le hk with⟨rfl,rfl,e,j⟩|⟨rfl,rfl,e,j⟩|⟨rfl,rfl,e,f,j⟩|⟨rfl,rfl,e,f,g,j⟩|⟨rfl,rfl,F,m,j⟩
 all_goals simp only[aC,aF]at B
 all_goals subst B
 ·cases a<;>simp only[cX]at h
  case p v=>
   cases v<;>simp only at h<;>simp at h
   all_goals subst h
   all_goals simp only[aC,aF]at i
   ·subst i;simp[gi,dg j]
   ·obtain⟨_,_,_,_,_,_,rfl⟩:=i;simp[gi,dg j]
  case ptr A path=>
   simp only[aC,bX,cg]at i;obtain⟨_,_,_,_,rfl,_⟩:=i
   split at h
   ·simp at h;subst h;simp[gi,dg j]
   ·simp at h
  all_goals simp at h
 ·cases a<;>simp only[cX]at h
  case p v=>
   cases v
   case seq o=>
    cases o with
    |nil=>simp at h
    |cons e o=>
     simp at h;subst h;simp only[aC,aF]at i;rcases i with⟨I,_⟩|⟨_,_,_,_,_,_,_,_,_,_,_,rfl⟩
     ·cases I
     ·simp[gi,dg j]
   all_goals simp only at h
   all_goals simp at h
   all_goals subst h
   all_goals simp only[aC,aF]at i
   ·subst i;simp[gi,dg j]
   ·obtain⟨_,_,_,_,_,_,_,_,_,_,_,_,rfl⟩:=i;simp[gi,dg j]
  case sl A aE al off len=>
   simp only[aC,bX,cg]at i;simp only[dR]at aA
   split at h
   case h_2=>simp at h
   rename_i z L K o s;rw[s]at aA;have t:=aA _ (kk.2 rfl)
   split at h
   case isFalse=>simp at h
   rename_i hc;obtain⟨rfl,rfl⟩:=hc;obtain⟨_,D,E⟩:=i.2 z o t
   by_cases hn:dQ z o
   ·rw[D hn];have:r=true:=by simp at h;rw[<-h];simp[hn.1,hn.2]
    subst this;simp[gi,dg j]
   ·rw[E hn];have:r=false:=by
     simp at h;rw[<-h];unfold dQ at hn
     by_cases C:z.gr=true
     ·have J:o≠[]:=fun h=>hn ⟨C,h⟩;simp[J]
     ·simp[C]
    subst this;simp[gi,dg j]
  all_goals simp at h
 ·cases a<;>simp only[cX]at h
  case p v=>
   cases v<;>simp only at h<;>simp at h
   all_goals subst h
   all_goals simp only[aC,aF]at i
   ·subst i;simp[gi,dg j]
   ·obtain⟨_,_,_,_,_,_,rfl⟩:=i;simp[gi,dg j]
  case map A=>
   simp only[aC,bX,cg]at i;simp only[dR]at aA
   split at h
   case h_2=>simp at h
   rename_i fz o s;rw[s]at aA;have t:=aA _ (kk.2 rfl);rw[i.2.1 ⟨_,t,rfl⟩];simp at h;subst h;simp[gi,dg j]
  all_goals simp at h
 ·cases a<;>simp only[cX]at h
  case p v=>
   cases v<;>simp only at h<;>simp at h
   all_goals subst h
   all_goals simp only[aC,aF]at i
   ·obtain⟨_,_,_,_,rfl⟩:=i;simp[gi,dg j]
   ·subst i;simp[gi,dg j]
  case func f first iV=>
   simp only[aC]at i;obtain⟨_,_,_,_,rfl⟩:=i;simp at h;subst h;simp[gi,dg j]
  all_goals simp at h
 ·cases a<;>simp only[cX]at h
  case p v=>
   cases v<;>simp only at h<;>simp at h
   all_goals subst h
   all_goals simp only[aC,aF]at i
   subst i;simp[gi,dg j,F]
  all_goals simp at h
theorem aAM{i:eb}{T s:db}{x y:dp}{K:PV->Prop}{H0:ah}(j:o.op= .binOp i T x y s)(h:lM P i T (rG y) H0 (ρ x) (ρ y) K):
 ∃v,K v/\bF P o ρ base {v:=.p v,aA:=dR H0 (ρ x)}:=by
 unfold lM at h
 split at h
 ·rename_i k a C b hx g;exact aAO j hx g h.1 h.2 _
 ·rename_i a b hx g;exact aAT j hx g h _
 ·rename_i a b hx g;obtain⟨z,h⟩:=h;have m:=Vw z;refine Fu (r:=a==b) j ?_ ?_
  ·split at h
   ·exact .inl ⟨rfl,h⟩
   ·exact .inr ⟨rfl,h⟩
   ·exact h.elim
  ·intro H w aa ag β n q e aA f c;rw[hx]at f;rw[g]at c;simp only[aC,aF]at f c;subst f;subst c;obtain⟨d,_,l⟩:=AJ T (.bool a) (.bool b);rw[l];exact⟨by simp[gi,dg m],.inl ⟨_,rfl⟩,fun u v m _=>by cases m⟩
 ·rename_i u fs u' t hx g;obtain⟨B,h⟩:=h;obtain⟨r,e,c⟩:∃r,iW P 9 T (.st u fs) (.st u' t)=some r/\(i=.eql/\K (.bool r)\/i=.neq/\K (.bool !r)):=by
   split at h
   ·rename_i r e;exact⟨r,e,.inl ⟨rfl,h⟩⟩
   ·rename_i r e;exact⟨r,e,.inr ⟨rfl,h⟩⟩
   ·exact h.elim
  refine Fu (r:=r) j c ?_;intro H w aa ag β n q _ aA f c;rw[hx]at f;rw[g]at c;simp only[aC]at f c;refine⟨?_,?_,fun u v _ _=>by simpa[tP]using B⟩
  ·obtain⟨d,A,l⟩:=AJ T n q;rw[l];exact AX 9 T _ _ r e _ _ f c (d+1) A
  ·simp only[aF]at f;obtain⟨_,_,_,_,rfl⟩:=f;exact .inr (.inl ⟨_,rfl⟩)
 ·rename_i hx g
  split at h
  case h_2=>exact h.elim
  rename_i k hk;obtain⟨r,e,c⟩:∃r,cX H0 k (ρ x)=some r/\(i=.eql/\K (.bool r)\/i=.neq/\K (.bool !r)):=by
   split at h
   ·rename_i r e;exact⟨r,e,.inl ⟨rfl,h⟩⟩
   ·rename_i r e;exact⟨r,e,.inr ⟨rfl,h⟩⟩
   ·exact h.elim
  exact Fu (r:=r) j c fun H w aa ag β n q _ aA f c=>aAn hk e aA f c
end
section
variable{P:da}{w:dx}{aa ag:Nat->Prop}{β:Bd}{H:ah}
variable{o:Oper}{ρ:dp->AV}{base:Nat}
theorem pH{c:dp->dl}:∀(l:List dp),(∀x∈l,aC P w aa β H (ρ x) (c x)/\aH (aN H) (ρ x))->bK P w aa β H (l.map ρ) (l.map c)/\aZ (aN H) (l.map ρ)
 |[],_=>by simp[bK,aZ]
 |x::l,h=>by
  have a:=h x s_;have b:=pH l (fun y d=>h y (by simp[d]));simp only[hW,bK,aZ];exact⟨⟨_,_,rfl,a.1,b.1⟩,a.2,b.2⟩
theorem AB{H0:ah}:∀(l:List AV){j:List PV}{aA aO:List (Nat×Obj)}{H:ah}{aa:Nat->Prop}{vs:List dl},gz H0 l=some (j,aA,aO)->cj P w aa β H ag->bK P w aa β H l vs->aZ (aN H) l->
 (∀p∈aA,∃f fz t,p.2=.box fz t/\H[p.1]?=some (.box f t))->∃aG,cd P ag aa w β H aG w β (bt H aO)/\bO P w aG j vs/\∀p∈aO,p.1<H0.length/\p.2≠.hole
 |[],j,aA,aO,H,aa,vs,h,i,e,_,_=>by
  simp[gz]at h;obtain⟨rfl,rfl,rfl⟩:=h;simp only[bK]at e;exact⟨aa,cd.refl i,by simpa[bO]using e,s_⟩
 |a::l,j,aA,aO,H,aa,vs,h,i,e,d,m=>by
  simp only[bK]at e;obtain⟨y,x,rfl,n,u⟩:=e;simp only[aZ]at d;cases a with
  |p v=>
   simp only[gz]at h
   split at h
   case h_2=>simp at h
   rename_i G B E k;simp at h;obtain⟨rfl,rfl,rfl⟩:=h;obtain⟨aG,q1,o,q⟩:=AB l k i u d.2 m;simp only[aC]at n;exact⟨aG,q1,by simp only[bO];exact⟨y,x,rfl,aF.mono q1.b8 (fun _ _=>rfl) _ _ n,o⟩,q⟩
  |ptr b path=>
   cases path with
   |cons _ _=>simp[gz]at h
   |nil=>
    simp only[gz]at h
    split at h
    case h_2=>simp at h
    rename_i fz t G B E C k;simp at h;obtain⟨rfl,rfl,rfl⟩:=h;obtain⟨f,J,K,e1,e2⟩:=m (b,.box fz (.p t)) s_;cases e1;have D:lx H (.ptr b [])=some (.cE t,H.set b (.box true (.p t))):=by
     simp only at e2;simp[lx,e2,l9]
    obtain⟨I,g,F⟩:=LS D i n d.1;have A:b<H.length:=(hQ.1 e2).1;obtain⟨z,q1,o,q⟩:=AB l k g.rel (bK.mono g.b8 (fun _ _=>rfl) g.step _ _ d.2 u) (aZ.mono g.ir _ d.2) (by
     intro p c;obtain⟨f2,r,t2,g1,g2⟩:=m p (by simp[c])
     by_cases s:b=p.1
     ·rw[<-s]at g2⊢;simp only at e2;rw[e2]at g2;cases g2;exact⟨true,r,_,g1,by rw[hS A]⟩
     ·exact⟨f2,r,t2,g1,by rw[h0 s];exact g2⟩)
    refine⟨z,by simpa only[bt]using g.trans q1,?_,?_⟩
    ·simp only[bO];exact⟨y,x,rfl,aF.mono q1.b8 (fun _ _=>rfl) _ _ F,o⟩
    ·intro p c;rcases hU.1 c with rfl|c
     ·exact⟨(hQ.1 C).1,s_⟩
     ·exact q p c
  |_=>simp[gz]at h
theorem Wj{f:dq}{e d:Array dp}(G:o.op= .makeFunc (.func f) e d):
 (∀a b,eE (e.toList.map ρ)=some a->eE (d.toList.map ρ)=some b->bF P o ρ base {v:=.p (.func f a b)})/\
 bF P o ρ base {v:=.func f (e.toList.map ρ) (d.toList.map ρ)}/\
 (∀(H0:ah) a b aA aO,gz H0 (e.toList.map ρ)=some (a,[],[])->gz H0 (d.toList.map ρ)=some (b,aA,aO)->bF P o ρ base {v:=.p (.func f a b),aA,aO}/\(∀p∈aA,H0[p.1]?=some p.2)/\(∀p∈aO,p.1<H0.length/\p.2≠.hole)):=by
 have j:∀x,x∈e.toList\/x∈d.toList->x∈o.op.operands:=by
  intro x hx;rw[G];simp only[gg,Array.mem_append];simpa using hx
 have z:∀(c:dp->dl)(w:dx),(dy c o).run P w=.ok (.value (.func (.func f) (e.toList.map c).toArray (d.toList.map c).toArray)) w:=by
  intro c w;simp only[dy,G];refine fP ?_;have m:(e.toList.map c).toArray=e.map c:=by apply b2;simp
  have n:(d.toList.map c).toArray=d.map c:=by apply b2;simp
  rw[m,n];simp[Instr.makeFunc]
 refine⟨?_,?_,?_⟩
 ·intro a b y q;refine bF.same fun H w aa ag β c B i _=>⟨_,z c w,?_,by simp[aH]⟩
  obtain⟨m,_⟩:=pH e.toList (fun x hx=>i x (j x (.inl hx)));obtain⟨n,_⟩:=pH d.toList (fun x hx=>i x (j x (.inr hx)));rw[nq y]at m;rw[nq q]at n;simp only[aC,aF];exact⟨_,_,kG.1 m,kG.1 n,rfl⟩
 ·refine bF.same fun H w aa ag β c B i _=>⟨_,z c w,?_,?_⟩
  ·simp only[aC];exact⟨_,_,(pH e.toList (fun x hx=>i x (j x (.inl hx)))).1,(pH d.toList (fun x hx=>i x (j x (.inr hx)))).1,rfl⟩
  ·simp only[aH];exact⟨(pH e.toList (fun x hx=>i x (j x (.inl hx)))).2,(pH d.toList (fun x hx=>i x (j x (.inr hx)))).2⟩
 ·intro H0 a b aA aO y q;have F:∀p∈aA,H0[p.1]?=some p.2/\∃fz t,p.2=.box fz t:=by
   have:∀(l:List AV)(b:List PV)(aA aO:List (Nat×Obj)),gz H0 l=some (b,aA,aO)->∀p∈aA,H0[p.1]?=some p.2/\∃fz t,p.2=.box fz t:=by
    intro l
    induction l with
    |nil=>intro b aA aO h;simp[gz]at h;obtain⟨rfl,rfl,rfl⟩:=h;simp
    |cons x l s=>
     intro b aA aO h;cases x with
     |p v=>
      simp only[gz]at h
      split at h
      case h_2=>simp at h
      rename_i D r C k;simp at h;obtain⟨rfl,rfl,rfl⟩:=h;exact s _ _ _ k
     |ptr L path=>
      cases path with
      |cons _ _=>simp[gz]at h
      |nil=>
       simp only[gz]at h
       split at h
       case h_2=>simp at h
       rename_i fz t D r C A k;simp at h;obtain⟨rfl,rfl,rfl⟩:=h;intro p g;rcases hU.1 g with rfl|g
       ·exact⟨A,_,_,rfl⟩
       ·exact s _ _ _ k p g
     |_=>simp[gz]at h
   exact this _ _ _ _ q
  have M:∀p∈aO,p.1<H0.length/\p.2≠.hole:=by
   have:∀(l:List AV)(b:List PV)(aA aO:List (Nat×Obj)),gz H0 l=some (b,aA,aO)->∀p∈aO,p.1<H0.length/\p.2≠.hole:=by
    intro l
    induction l with
    |nil=>intro b aA aO h;simp[gz]at h;obtain⟨rfl,rfl,rfl⟩:=h;simp
    |cons x l s=>
     intro b aA aO h;cases x with
     |p v=>
      simp only[gz]at h
      split at h
      case h_2=>simp at h
      rename_i D r C k;simp at h;obtain⟨rfl,rfl,rfl⟩:=h;exact s _ _ _ k
     |ptr L path=>
      cases path with
      |cons _ _=>simp[gz]at h
      |nil=>
       simp only[gz]at h
       split at h
       case h_2=>simp at h
       rename_i fz t D r C A k;simp at h;obtain⟨rfl,rfl,rfl⟩:=h;intro p g;rcases hU.1 g with rfl|g
       ·exact⟨(hQ.1 A).1,s_⟩
       ·exact s _ _ _ k p g
     |_=>simp[gz]at h
   exact this _ _ _ _ q
  refine⟨?_,fun p g=>(F p g).1,M⟩;intro H w aa ag β c B i r _;obtain⟨m,r1⟩:=pH e.toList (fun x hx=>i x (j x (.inl hx)));obtain⟨n,J⟩:=pH d.toList (fun x hx=>i x (j x (.inr hx)));obtain⟨Q,u,N,_⟩:=AB _ y B m r1 s_;simp only[bt]at u;obtain⟨K,q1,O,_⟩:=AB _ q u.rel (bK.mono u.b8 (fun _ _=>rfl) u.step _ _ J n) J (by
   intro p g;obtain⟨_,fz,t,I⟩:=F p g;have E:=r p g;rw[I]at E;exact⟨fz,fz,t,I,E⟩)
  simp only[newAt,hX];refine⟨_,_,w,β,K,z c w,.inl rfl,u.trans q1,?_,by simp[aH]⟩;simp only[aC,aF];exact⟨_,_,bO.mono q1.b8 (fun _ _=>rfl) _ _ N,O,rfl⟩
theorem Dy{x:dp}(d:o.op=.nilCheck x)(h:(∃b p,ρ x=.ptr b p)\/(∃b v e i p,ρ x=.cm b v e i p)\/∃t,ρ x=.p (.cE t)):bF P o ρ base {v:=ρ x}:=by
 refine bF.same fun H w aa ag β f l k aA=>?_;have c:=k x (by simp[d,gg]);refine⟨f x,?_,c⟩;have j:∃a,f x=.pointer (some a):=by
  rcases h with⟨b,p,hx⟩|⟨b,v,e,i,p,hx⟩|⟨t,hx⟩
  ·have c:=c.1;rw[hx]at c;simp only[aC,bX,cg]at c;obtain⟨_,_,_,_,h,_⟩:=c;exact⟨_,h⟩
  ·have c:=c.1;rw[hx]at c;simp only[aC,bX,cg]at c;obtain⟨_,_,_,_,h,_⟩:=c;exact⟨_,h⟩
  ·have c:=c.1;rw[hx]at c;simp only[aC,aF]at c;obtain⟨_,_,_,_,_,_,h⟩:=c;exact⟨_,h⟩
 obtain⟨a,g⟩:=j;simp[dy,d,g]
end
section
variable{P:da}{w:dx}{aa ag:Nat->Prop}{β:Bd}{H:ah}
variable{o:Oper}{ρ:dp->AV}{base:Nat}
open Go.MapKept
def oC:PV->Prop
 | .st _ _=>False
 |_=>True
theorem MQ{T:db}{key:PV}(h:oC key)(k:PV):rE P T key k=kJ key k:=by
 cases key<;>first
  |exact h.elim
  |rfl
theorem VD{T:db}{key:PV}(h:oC key)(a:List (PV×PV)):nu P T a key=gA P T a key:=by
 cases key<;>first
  |exact h.elim
  |rfl
theorem Ke{T:db}{key:PV}{b:dl}(h:gN P T key=true)(c:oC key)(a:aF P w aa key b):∃d,P.underlying T=some d/\IsKey d b:=by
 unfold gN at h
 split at h
 ·split at h
  ·rename_i e;simp at h;subst h;simp only[aF]at a;subst a;exact⟨_,e,by simp[IsKey]⟩
  ·simp at h
 ·simp only[aF]at a;obtain⟨bs,rfl,_⟩:=a;exact⟨_,zX h,by simp[IsKey]⟩
 ·exact c.elim
 ·simp at h
theorem Od{T:db}{d:TypeDesc}(j:P.underlying T=some d){key g:PV}{i v':dl}{r:Bool}(h:gN P T key=true)(p:oC key)(c:kJ key g=some r)(e:aF P w aa key i)(f:aF P w aa g v'):
 fm d i v'=some r/\(r=true->i=v'):=by
 unfold gN at h
 split at h
 ·split at h
  ·rename_i k;simp at h;subst h;rw[j]at k;cases k;cases g<;>simp only[kJ]at c<;>try (simp at c;done)
   split at c
   ·rename_i hk;subst hk;simp at c;subst c;simp only[aF]at e f;subst e;subst f;simp[fm]
   ·simp at c
  ·simp at h
 ·rename_i hs;have:=zX h;rw[j]at this;cases this;cases g<;>simp only[kJ]at c<;>try (simp at c;done)
  simp at c;subst c;simp only[aF]at e f;obtain⟨a,rfl,e1⟩:=e;obtain⟨b,rfl,e2⟩:=f;subst e1;subst e2;have n:(j8 (fun x:UInt8=>x.toNat) a.data.toList=j8 (fun x:UInt8=>x.toNat) b.data.toList)↔a=b:=by
   constructor
   ·intro h;have:=Dt h;apply ByteArray.ext;apply b2;exact this
   ·intro h;rw[h]
  by_cases hc:a=b
  ·subst hc;simp[fm,ge]
  ·have l:¬(j8 (fun x:UInt8=>x.toNat) a.data.toList=j8 (fun x:UInt8=>x.toNat) b.data.toList):=fun h=>hc (n.1 h);have m:(a==b)=false:=by
    cases o:(a==b)with
    |false=>rfl
    |true=>exact(hc ((ge a b).1 o)).elim
   simp[fm,l,m]
 ·exact p.elim
 ·simp at h
theorem EG{T:db}{d:TypeDesc}(o:P.underlying T=some d){key:PV}{g:dl}(hk:gN P T key=true)(m:oC key)(l:aF P w aa key g):∀(b:List (PV×PV))(a:List dz)(i:Nat)(r:Option PV),cW P w aa b a->gA P T b key=some r->
 (r=none/\fd d g a i=some none)\/∃v j e,r=some v/\fd d g a i=some (some (i+j,e.val))/\a[j]?=some e/\aF P w aa v e.val/\e.key=g/\
  (∀(x:PV)(k:dl),aF P w aa x k->cW P w aa (gM b key x) (a.modify j fun e=>{e with key:=g,val:=k}))
 |[],a,i,r,f,h=>by
  simp only[cW]at f;simp[gA]at h;subst f;subst h;exact .inl ⟨rfl,rfl⟩
 |(s,v')::b,a,i,r,f,h=>by
  simp only[cW]at f;obtain⟨e,rest,rfl,n,p,q⟩:=f;simp only[gA,MQ m]at h
  split at h
  ·rename_i c;simp at h;subst h;obtain⟨g1,g2⟩:=Od o hk m c l n;refine .inr ⟨v',0,e,rfl,by simp[fd,g1],rfl,p,(g2 rfl).symm,fun x k hx=>?_⟩;simp only[gM,c,if_true];simp only[cW];exact⟨_,rest,rfl,l,hx,q⟩
  ·rename_i c;obtain⟨g1,g2⟩:=Od o hk m c l n;rcases EG o hk m l b rest (i+1) r q h with⟨rfl,f1⟩|⟨v,j,e',rfl,f1,f2,f3,f4,f5⟩
   ·exact .inl ⟨rfl,by simp[fd,g1,f1]⟩
   ·refine .inr ⟨v,j+1,e',rfl,by simp[fd,g1,f1];omega,by simpa using f2,f3,f4,fun x k hx=>?_⟩;simp only[gM,c];rw[if_neg s_];simp only[cW];exact⟨e,_,by simp[List.modify_succ_cons],n,p,f5 x k hx⟩
  ·simp at h
theorem KE{X:Array dl}{u:db->PV->PV->Option Bool}(e:Bool)(n:Nat):
 ∀(fs:List ed)(l:List Nat)(b:List PV)(r:Bool)(d:List dl)(o:List (List dl)),jS P u (fs.map (·.type)) b b=some r->(∀f∈fs,f.name≠ "_" /\vr P f.type=true)->
 (∀(i:Nat)(f:ed),fs[i]?=some f->f.offset=d.length+(l.take i).sum)->bn P w aa l b o->
 X.toList=d++o.flatten->(forIn fs mx (fun f _=>if f.name≠ "_" then(do
  let x<-part f.type X f.offset
  fl e (n+1) f.type x
  pure (ForInStep.yield mx))else pure (ForInStep.yield mx):ed->PUnit->Sem (ForInStep PUnit))).run P w=.ok mx w
 |[],l,b,r,d,o,_,_,_,_,_=>by simp
 |f::fs,l,b,r,d,o,h,hn,s,hx,q=>by
  cases b with
  |nil=>simp[jS]at h
  |cons a b=>
   cases l with
   |nil=>simp[bn]at hx
   |cons m l=>
    simp only[hW,jS]at h
    split at h
    case isFalse=>simp at h
    rename_i hk
    split at h
    case h_2=>simp at h
    rename_i r1 D F v;obtain⟨c,cs,rfl,hc,y,C⟩:=xV hx;obtain⟨A,p⟩:=hn f s_;have B:f.offset=d.length:=by simpa using s 0 f s_
    obtain⟨x,x1,x2⟩:=sV hk.1 hc (pre:=d) (post:=cs.flatten) (cs:=X) (by rw[q];simp);rw[<-B]at x1;have t:(fl e (n+1) f.type x).run P w=.ok () w:=by
     unfold vr at p;unfold fl
     split at p
     ·rename_i k j;simp[dg j]
     ·rename_i j;simp[dg j]
     ·rename_i j;simp[dg j]
     ·cases p
    have E:=KE e n fs l b D (d++c) cs v (fun f hf=>hn f (by simp[hf])) (by
     intro i g z;have:=s (i+1) g (by simpa using z);rw[this,j9,le,hT,y];omega) C (by rw[q];simp)
    rw[List.forIn_cons];simp only[A,ne_eq,not_false_eq_true,if_true,hD,x1,t,hw,hE];exact E
theorem Vb{T:db}{bW:Array ed}{u:Nat}{fs:List PV}{g:dl}(b:P.underlying T=some (.struct bW))(j:bW.toList.all (fun f=>f.name != "_" &&vr P f.type)=true)(a:(iW P 9 T (.st u fs) (.st u fs)).isSome=true)(d:aF P w aa (.st u fs) g)(e:Bool):
 (fl e 10000 T g).run P w=.ok () w:=by
 obtain⟨r,a⟩:=mo.1 a;unfold iW at a;simp only[b]at a
 split at a
 case isFalse=>simp at a
 rename_i hc;obtain⟨hk,-,-,-⟩:=hc;simp only[aF]at d;obtain⟨l,c,k1,k2,rfl⟩:=d;obtain⟨o,p,s1,s2,q,h,s,k⟩:=xc (P:=P) (T:=T) (u:=u) (n:=bW.size) (by unfold eC;rw[hk,b]);rw[b]at s1;cases s1;rw[k1]at h;cases h;have key:=KE (w:=w) (aa:=aa) (X:=c.flatten.toArray) e 9998 bW.toList l fs r [] c a (fun f hf=>by
  have:=h7.1 j f hf;simpa using this) (by
   intro i f hf;have hi:i<bW.size:=by
    have:=(hQ.1 hf).1;simpa using this
   obtain⟨m,g1,g2,_⟩:=k i hi;rw[b4,g1]at hf;cases hf;simpa using g2) k2 s_
 unfold fl;simp only[hD,dg b,hw];rw[<-Array.forIn_toList];rw[key];simp
theorem Ec{T:db}{u:Nat}{fs:List PV}{g:dl}(p:aF P w aa (.st u fs) g):∀(k:List (PV×PV))(f:List dz)(i:Nat)(r:Option PV),cW P w aa k f->gA P T k (.st u fs)=some r->
 (r=none/\(fb T g f i).run P w=.ok none w/\∀x n born,aF P w aa x n->cW P w aa (gM k (.st u fs) x) (f++[{key:=g,val:=n,born}]))\/∃(v:PV)(j:Nat)(e:dz),r=some v/\(fb T g f i).run P w=.ok (some (i+j,e.val)) w/\aF P w aa v e.val
 |[],f,i,r,m,h=>by
  simp only[cW]at m;simp[gA]at h;subst m;subst h;refine .inl ⟨rfl,by simp[fb],fun x n born hx=>?_⟩;simp only[gM,cW];exact⟨_,[],rfl,p,hx,rfl⟩
 |(y,v')::k,f,i,r,m,h=>by
  simp only[cW]at m;obtain⟨e,rest,rfl,s,t,z⟩:=m;simp only[gA]at h;have q:∀b,rE P T (.st u fs) y=some b->(gj T g e.key).run P w=.ok b w/\kJ (.st u fs) y=some b:=by
   intro b l;simp only[rE]at l
   split at l
   ·rename_i a c A hc;cases a<;>cases c<;>simp at l<;>subst l<;>
    ·obtain⟨d,B,hq⟩:=AJ T g e.key;rw[hq];exact⟨AX 9 T _ _ _ A _ _ p s _ B,hc⟩
   ·simp at l
  split at h
  ·rename_i o;simp at h;subst h;obtain⟨g1,g2⟩:=q _ o;exact .inr ⟨v',0,e,rfl,by simp[fb,g1],t⟩
  ·rename_i o;obtain⟨g1,g2⟩:=q _ o;rcases Ec p k rest (i+1) r z h with⟨rfl,f1,f2⟩|⟨v,j,e',rfl,f1,f3⟩
   ·refine .inl ⟨rfl,by simp[fb,g1,f1],fun x n born hx=>?_⟩;simp only[gM,g2];rw[if_neg s_];simp only[cW];exact⟨e,_,rfl,s,t,f2 x n born hx⟩
   ·refine .inr ⟨v,j+1,e',rfl,?_,f3⟩;simp[fb,g1,f1];omega
  ·simp at h
theorem EH{T:db}{bW:Array ed}(c:P.underlying T=some (.struct bW)){b:dl}{a:List dz}{f:Option (Nat×dl)}(h:(fb T b a 0).run P w=.ok f w):(fi T b a).run P w=.ok f w:=by
 unfold fi;simp only[hD,dg c,hw];cases a with
 |nil=>
  simp only[fd];simpa[fb]using h
 |cons e es=>
  have:fd (.struct bW) b (e::es) 0=none:=by simp[fd,fm]
  rw[this];exact h
theorem DM{T:db}{key:PV}(h:gN P T key=true)(a:¬oC key):∃u fs bW,key= .st u fs/\P.underlying T=some (.struct bW)/\bW.toList.all (fun f=>f.name != "_" &&vr P f.type)=true/\(iW P 9 T (.st u fs) (.st u fs)).isSome=true:=by
 cases key<;>first
  |exact(a trivial).elim
  |skip
 rename_i u fs;simp only[gN]at h
 split at h
 ·rename_i bW b;rw[cx]at h;exact⟨u,fs,bW,rfl,b,h.1,h.2⟩
 ·cases h
theorem Nk{T:db}{key:PV}{g:dl}(hk:gN P T key=true)(f:aF P w aa key g){b:List (PV×PV)}{a:List dz}{r:Option PV}(l:cW P w aa b a)(h:gA P T b key=some r):
 (∀e,(fl e 10000 T g).run P w=.ok () w)/\
 ((r=none/\(fi T g a).run P w=.ok none w)\/∃(v:PV)(j:Nat)(e:dz),r=some v/\(fi T g a).run P w=.ok (some (j,e.val)) w/\aF P w aa v e.val):=by
 by_cases i:oC key
 ·obtain⟨d,c,o⟩:=Ke hk i f;refine⟨fun e=>run_checkKey c o _ 9999,?_⟩;rcases EG c hk i f b a 0 r l h with⟨rfl,f1⟩|⟨v,j,e,rfl,f1,f2,f3,f4,_⟩
  ·exact .inl ⟨rfl,run_findKey c f1⟩
  ·exact .inr ⟨v,0+j,e,rfl,run_findKey c f1,f3⟩
 ·obtain⟨u,fs,bW,rfl,k,m,n⟩:=DM hk i;refine⟨fun e=>Vb k m n f e,?_⟩;rcases Ec f b a 0 r l h with⟨rfl,f1,_⟩|⟨v,j,e,rfl,f1,f3⟩
  ·exact .inl ⟨rfl,EH k f1⟩
  ·exact .inr ⟨v,0+j,e,rfl,EH k f1,f3⟩
theorem KA{T:db}{key x:PV}{g i:dl}(d:aF P w aa key g)(hx:aF P w aa x i)(born:Nat):∀(a:List (PV×PV))(c:List dz),oC key->cW P w aa a c->gA P T a key=some none->cW P w aa (gM a key x) (c++[{key:=g,val:=i,born}])
 |[],c,_,b,_=>by
  simp only[cW]at b;subst b;simp only[gM,cW];exact⟨_,[],rfl,d,hx,rfl⟩
 |(n,v')::a,c,f,b,h=>by
  simp only[cW]at b;obtain⟨e,rest,rfl,j,k,l⟩:=b;simp only[gA,MQ f]at h
  split at h
  ·simp at h
  ·rename_i m;simp only[gM,m];rw[if_neg s_];simp only[cW];exact⟨e,_,rfl,j,k,KA (T:=T) d hx born a rest f l h⟩
  ·simp at h
def vH(ok:Bool)(z:PV):Option PV->PV
 |some v=>if ok then .aD [v,.bool true]else v
 |none=>if ok then .aD [z,.bool false]else z
theorem WK{T:db}{c E:db}{x i:dp}{ok:Bool}{key z:PV}{r:Option PV}{k:List (PV×PV)}(B:o.op= .lookup T x i ok)(g:mA P T=some (c,E))(hz:cG P E=some z)(hk:gN P c key=true)(A:gA P c k key=some r)
 {ρc:dp->dl}(y:aF P w aa key (ρc i))(hx:(ρc x=.map none/\k=[])\/∃b a d,ρc x=.map (some b)/\w.heap[b]?=some (.map a d)/\cW P w aa k a.toList):
 ∃cv,(dy ρc o).run P w=.ok (.value cv) w/\aF P w aa (vH ok z r) cv:=by
 have m:P.underlying T=some (.map c E):=by
  unfold mA at g
  split at g
  ·rename_i C;simp at g;rw[C,g.1,g.2]
  ·simp at g
 obtain⟨s,z1,z2⟩:=Xh hz;obtain⟨a,q,n⟩:∃a:Array dz,((ρc x=.map none/\a=#[])\/∃b d,ρc x=.map (some b)/\w.heap[b]?=some (.map a d))/\cW P w aa k a.toList:=by
  rcases hx with⟨hx,rfl⟩|⟨b,a,d,hx,h,n⟩
  ·exact⟨#[],.inl ⟨hx,rfl⟩,by simp[cW]⟩
  ·exact⟨a,.inr ⟨b,d,hx,h⟩,n⟩
 obtain⟨l,t⟩:=Nk hk y n A
 have p:∀(f:Option (Nat×dl))(v:dl)(b:Bool),(fi c (ρc i) a.toList).run P w= .ok f w->(f=none/\v=s/\b=false\/∃j,f=some (j,v)/\b=true)->
  (dy ρc o).run P w=.ok (.value (if ok then .tuple #[v,.bool b]else v)) w:=by
  intro f v b hf u;simp only[dy,B];refine fP ?_;rcases u with⟨rfl,rfl,rfl⟩|⟨j,rfl,rfl⟩
  ·rcases q with⟨hx,rfl⟩|⟨b,d,hx,h⟩
   ·have hf:(fi c (ρc i) []).run P w=.ok none w:=hf;cases ok<;>simp[fv,dg m,hx,l,hf,z1]
   ·cases ok<;>simp[fv,dg m,hx,gc h,l,hf,z1]
  ·rcases q with⟨hx,rfl⟩|⟨b,d,hx,h⟩
   ·have hf:(fi c (ρc i) []).run P w=.ok (some (j,v)) w:=hf;cases ok<;>simp[fv,dg m,hx,l,hf]
   ·cases ok<;>simp[fv,dg m,hx,gc h,l,hf]
 rcases t with⟨rfl,f1⟩|⟨v,j,e,rfl,f1,f3⟩
 ·refine⟨_,p none s false f1 (.inl ⟨rfl,rfl,rfl⟩),?_⟩;cases ok with
  |true=>simp only[vH,if_true,aF,bO];exact⟨_,⟨_,_,rfl,z2 w aa,_,_,rfl,rfl,rfl⟩,rfl⟩
  |false=>simpa[vH]using z2 w aa
 ·refine⟨_,p _ e.val true f1 (.inr ⟨_,rfl,rfl⟩),?_⟩;cases ok with
  |true=>simp only[vH,if_true,aF,bO];exact⟨_,⟨_,_,rfl,f3,_,_,rfl,rfl,rfl⟩,rfl⟩
  |false=>simpa[vH]using f3
theorem xp{T:db}{c E:db}{x g:dp}{ok:Bool}{key z:PV}{r:Option PV}{es:List (PV×PV)}{aA:List (Nat×Obj)}(f:o.op= .lookup T x g ok)(m:mA P T=some (c,E))(hz:cG P E=some z)(hi:ρ g= .p key)(hk:gN P c key=true)(n:gA P c es key=some r)
 (hx:(ρ x=.p .fM/\es=[])\/ρ x=.p (.eJ es)\/∃b fz,ρ x=.map b/\(b,.map fz es)∈aA):
 bF P o ρ base {v:=.p (vH ok z r),aA}:=by
 refine bF.same fun H w aa ag β t s i aA=>?_;have a:=(i x (by simp[f,gg])).1;have e:=(i g (by simp[f,gg])).1;rw[hi]at e;simp only[aC]at e;obtain⟨cv,c1,c2⟩:=WK f m hz hk n (ρc:=t) (w:=w) (aa:=aa) e (by
  rcases hx with⟨hx,rfl⟩|hx|⟨b,fz,hx,q⟩
  ·rw[hx]at a;simp only[aC,aF]at a;exact .inl ⟨a,rfl⟩
  ·rw[hx]at a;simp only[aC,aF]at a;obtain⟨b,d,clock,_,j,k,l⟩:=a;exact .inr ⟨b,d,clock,l,j,k⟩
  ·rw[hx]at a;simp only[aC,bX,cg]at a;have h:=aA _ q;obtain⟨d,clock,k1,k2,_⟩:=s.du b _ h;exact .inr ⟨_,d,clock,a.2.1 ⟨_,h,rfl⟩,k1,k2⟩)
 exact⟨cv,c1,by simpa only[aC]using c2,by simp[aH]⟩
theorem WC{T:db}(e:o.op=.makeMap T none):bF P o ρ base {v:=.map base,ba:=[.map false []]}:=by
 intro H w aa ag β i b j _ d;have a:H[base]?=some .hole:=by simpa using d 0 s_
 have g:(dy i o).run P w=.ok (.value (.map (some w.heap.size))) {w with heap:=w.heap.push (.map #[] 0)}:=by
  simp only[dy,e];exact xa (by simp[Instr.makeMap])
 have f:=uZ (cap:=0) b a (ob:=.map #[] 0) (o':=.map false [])
  ⟨#[],0,by simp[Bd.at],by simp[cW],by
   simp only[dD,Bd.at,if_true,c6,if_false];exact⟨fun h=>ls _ (b.b8 _ h),fun h=>ls _ (b.fg _ h)⟩⟩ trivial
 refine⟨_,_,_,_,aa,g,.inl rfl,f,?_,?_⟩
 ·simp only[aC,bX,cg,mU];exact⟨rfl,fun _=>by simp[Bd.at],fun⟨L,c⟩=>by rw[hS (hQ.1 a).1]at c;cases c⟩
 ·simp only[aH,mU];exact⟨_,hS (hQ.1 a).1,trivial⟩
theorem Mx(f:cj P w aa β H ag){b:Nat}{o o':Obj}(a:H[b]?=some o)(i:o.live)(j:o'.live)(n:∀v,o.has v->o'.has v)(l:∀L,o≠ .loop L){ob:Go.Obj}
 (_hb:β.aw b<w.heap.size)(e:¬aa (β.aw b)/\¬ag (β.aw b))(aS:cK β H β (H.set b o'))
 (p:fh P {w with heap:=w.heap.setIfInBounds (β.aw b) ob} aa β (H.set b o') ag b o')(q:o'.refs (aN (H.set b o'))):
 cd P ag aa w β H aa {w with heap:=w.heap.setIfInBounds (β.aw b) ob} β (H.set b o'):=by
 refine cd.set f (hQ.1 a).1 (fun _ _=>⟨rfl,rfl⟩) (fun _ x=>x) (fun _ x=>.inl x) (fun k hk=>by simpa using f.b8 k hk) s_
  (fun k hk _=>?_) (fun _=>.inr ⟨rfl,⟨o,a,i⟩,.inr e.1,e.2⟩) aS p q (fun r v c g=>by rw[a]at c;cases c;exact n v g) (fun L d=>by rw[a]at d;cases d;exact(l L rfl).elim)
 have m:k≠β.aw b:=hk.resolve_right (fun h=>h j);simp[mj m]
theorem Ki{T t E:db}{m k x:dp}{b:Nat}{key v:PV}{a:List (PV×PV)}{r:Option PV}(g:o.op= .mapUpdate T m k x\/o.op= .insert T m k x)(z:mA P T=some (t,E))(ab:ρ m= .map b)(hk:ρ k= .p key)(hx:ρ x= .p v)
 (hf:gN P t key=true)(f:nu P t a key=some r):bF P o ρ base {v:=.p (.aD []),aA:=[(b,.map false a)],aO:=[(b,.map false (gM a key v))]}:=by
 have M:P.underlying T=some (.map t E):=by
  unfold mA at z
  split at z
  ·rename_i N;simp at z;rw[N,z.1,z.2]
  ·simp at z
 intro H w aa ag β c S O aA _;have G:H[b]?=some (.map false a):=by simpa using aA
 have L:m∈o.op.operands/\k∈o.op.operands/\x∈o.op.operands:=by
  rcases g with g|g<;>simp[g,gg]
 have l:=(O m L.1).1;have q:=(O k L.2.1).1;have B:=(O x L.2.2).1;rw[ab]at l;rw[hk]at q;rw[hx]at B;simp only[aC,bX,cg]at l q B;have l:=l.2.1 ⟨_,G,rfl⟩;obtain⟨i,clock,k1,k2,k3⟩:=S.du b _ G;have R:¬aa (β.aw b)/\¬ag (β.aw b):=by
  unfold dD at k3;rw[if_neg s_]at k3;exact k3
 have F:gA P t a key=some r:=by
  by_cases s:oC key
  ·rw[<-VD s];exact f
  ·obtain⟨u,fs,bW,rfl,_⟩:=DM hf s;simp only[nu]at f
   split at f
   ·rename_i hq;rw[hq];exact f
   ·cases f
 have J:=(Nk hf q k2 F).1 false;have Q:β.aw b<w.heap.size:=(b0.1 k1).1;have aS:cK β H β (H.set b (.map false (gM a key v))):=mq G
 have I:∀(y:Array dz)(A:Nat),(fp T (c m) (c k) (c x)).run P w= .ok () {w with heap:=w.heap.setIfInBounds (β.aw b) (.map y A)}->cW P w aa (gM a key v) y.toList->
  ∃n cv w' aM aG,(dy c o).run P w=.ok n w'/\(n=.value cv\/n=.skip/\cv=undef)/\
  cd P ag aa w β H aG w' aM (bt H ([(b,.map false (gM a key v))]++newAt base []))/\aC P w' aG aM (bt H ([(b,.map false (gM a key v))]++newAt base [])) (.p (.aD [])) cv/\
  aH (aN (bt H ([(b,.map false (gM a key v))]++newAt base []))) (.p (.aD [])):=by
  intro y A ae ac;have W:(dy c o).run P w=.ok .skip {w with heap:=w.heap.setIfInBounds (β.aw b) (.map y A)}:=by
   rcases g with g|g<;>simp[dy,g,ae]
  have af:∀D,aa D->({w with heap:=w.heap.setIfInBounds (β.aw b) (.map y A)}:dx).heap[D]?=w.heap[D]?:=by
   intro D Z;have:β.aw b≠D:=fun V=>R.1 (V▸Z);simp[this]
  refine⟨_,_,_,β,aa,W,.inr ⟨rfl,rfl⟩,?_,by simp[aC,aF,bO,undef],by simp[aH]⟩;simp only[newAt,hX,bt];exact Mx (o':=.map false (gM a key v)) S G trivial trivial (fun _ h=>h) (fun _ h=>by cases h) Q R aS ⟨y,A,by simp[Q],cW.mono (fun _ x=>x) af _ _ ac,k3⟩ trivial
 by_cases s:oC key
 case neg=>
  obtain⟨u,fs,bW,rfl,N,_,_⟩:=DM hf s;have ad:r=none:=by
   simp only[nu]at f
   split at f
   ·simpa using f.symm
   ·cases f
  subst ad;rcases Ec q a i.toList 0 none k2 F with⟨_,f1,f2⟩|⟨v',j,e,U,_⟩
  ·have C:=EH N f1;refine I (i.push {key:=c k,val:=c x,born:=clock}) (clock+1) ?_ ?_
   ·rw[l];simp only[fp,hD,dg M,hw,gc k1,J,C,run_setObj_map _ k1]
   ·rw[cc];exact f2 v (c x) clock B
  ·cases U
 obtain⟨d,K,X⟩:=Ke hf s q;rcases EG K hf s q a i.toList 0 r k2 F with⟨rfl,f1⟩|⟨v',j,e,rfl,f1,f2,f3,f4,f5⟩
 ·have C:=run_findKey (w:=w) K f1;refine I (i.push {key:=c k,val:=c x,born:=clock}) (clock+1) ?_ ?_
  ·rw[l];simp only[fp,hD,dg M,hw,gc k1,J,C,run_setObj_map _ k1]
  ·rw[cc];exact KA (T:=t) q B clock a i.toList s k2 F
 ·have C:=run_findKey (w:=w) K f1;have Y:i[j]?=some e:=by simpa using f2
  refine I (i.modify j fun e=>{e with key:=c k,val:=c x}) clock ?_ ?_
  ·rw[l];simp only[fp,hD,dg M,hw,gc k1,J,C];simp only[lu,Y,Option.map_some,mp,f4,run_keyThatStays X,hw,run_setObj_map _ k1]
  ·rw[Array.toList_modify];exact f5 v (c x) B
end
section
variable{P:da}{w:dx}{aa ag:Nat->Prop}{β:Bd}{H:ah}
variable{o:Oper}{ρ:dp->AV}{base:Nat}
theorem VR(bs:ByteArray):ib (jN bs)=bs:=by
 unfold ib jN;apply ByteArray.ext;apply b2;simp only[j5];have:(UInt8.ofNat∘fun x:UInt8=>x.toNat)=id:=by funext x;simp
 rw[this];simp
theorem YM{T:db}{x:dp}{s:List Nat}(d:o.op=.range T x)(hx:ρ x=.p (.str s))(e:jc P T=true):bF P o ρ base {v:=.ptr base [],ba:=[.eL s 0]}:=by
 intro H w aa ag β k b j _ f;have c:H[base]?=some .hole:=by simpa using f 0 s_
 have a:=(j x (by simp[d,gg])).1;rw[hx]at a;simp only[aC,aF]at a;obtain⟨bs,e1,e2⟩:=a;have i:(dy k o).run P w=.ok (.value (.pointer (some ⟨w.heap.size,0,none⟩))) {w with heap:=w.heap.push (.stringIter bs 0)}:=by
  simp only[dy,d,e1];exact xa (by simp[Instr.range,dg (zX e)])
 have g:=uZ (cap:=0) b c (ob:=.stringIter bs 0) (o':=.eL s 0)
  ⟨bs,by simp[Bd.at],e2,by
   simp only[dD,Bd.at,if_true,c6,if_false];exact⟨fun h=>ls _ (b.b8 _ h),fun h=>ls _ (b.fg _ h)⟩⟩ trivial
 refine⟨_,_,_,_,aa,i,.inl rfl,g,?_,?_⟩
 ·simp only[aC,bX,cg,mU];exact⟨rfl,_,_,0,rfl,rfl,fun _=>by simp[Bd.at]⟩
 ·simp only[aH,mU];exact⟨_,hS (hQ.1 c).1,trivial⟩
theorem aAR{g:dp}{b:Nat}{s:List Nat}{pos:Nat}(i:o.op= .next g true)(hx:ρ g= .ptr b []):
 (pos<s.length->bF P o ρ base {v:=.p (.aD [.bool true,.int .i64 pos,.int .i32 (hK (ib s) pos).1]),aA:=[(b,.eL s pos)],aO:=[(b,.eL s (pos+(hK (ib s) pos).2))]})/\
 (¬pos<s.length->bF P o ρ base {v:=.p (.aD [.bool false]),aA:=[(b,.eL s pos)]}):=by
 have key:∀{H:ah}{w:dx}{aa ag:Nat->Prop}{β:Bd}{e:dp->dl},cj P w aa β H ag->(∀x∈o.op.operands,aC P w aa β H (ρ x) (e x)/\aH (aN H) (ρ x))->H[b]?=some (.eL s pos)->
  e g=.pointer (some ⟨β.aw b,0,none⟩)/\∃bs:ByteArray,w.heap[β.aw b]?=some (.stringIter bs pos)/\s=jN bs/\(¬aa (β.aw b)/\¬ag (β.aw b)):=by
  intro H w aa ag β e d f a;have c:=(f g (by simp[i,gg])).1;rw[hx]at c;simp only[aC,bX,cg]at c;obtain⟨_,aw,off,u,n,l,q⟩:=c;simp[gT]at l;subst l;obtain⟨rfl,rfl⟩:=q ⟨_,a,rfl⟩;obtain⟨bs,k1,k2,k3⟩:=d.du b _ a;unfold dD at k3;rw[if_neg s_]at k3;exact⟨n,bs,k1,k2,k3⟩
 constructor
 ·intro j H w aa ag β e d f aA _;have a:H[b]?=some (.eL s pos):=by simpa using aA
  obtain⟨c,bs,k1,rfl,k3⟩:=key d f a;have k:pos<bs.size:=by simpa[jN]using j
  have m:β.aw b<w.heap.size:=(b0.1 k1).1;rw[VR];have t:(dy e o).run P w=.ok (.value (.tuple #[.bool true,goInt pos,.int .i32 (hK bs pos).1])) {w with heap:=w.heap.setIfInBounds (β.aw b) (.stringIter bs (pos+(hK bs pos).2))}:=by
   simp only[dy,i,c];refine xa ?_;simp[gb,getObj,setObj,hF,k1,hC,k]
  have aS:cK β H β (H.set b (.eL (jN bs) (pos+(hK bs pos).2))):=mq a;have r:=Mx (o':=.eL (jN bs) (pos+(hK bs pos).2)) (ob:=.stringIter bs (pos+(hK bs pos).2)) d a trivial trivial (fun _ h=>h) (fun _ h=>by cases h) m k3 aS
   ⟨bs,by simp[m],rfl,by unfold dD;rw[if_neg s_];exact k3⟩ trivial
  refine⟨_,_,_,β,aa,t,.inl rfl,?_,?_,by simp[aH]⟩
  ·simpa only[newAt,hX,bt]using r
  ·simp only[aC,aF,bO];exact⟨_,⟨_,_,rfl,rfl,_,_,rfl,rfl,_,_,rfl,rfl,rfl⟩,rfl⟩
 ·intro j;refine bF.same fun H w aa ag β e d f aA=>?_;have a:H[b]?=some (.eL s pos):=by simpa using aA
  obtain⟨c,bs,k1,rfl,k3⟩:=key d f a;have k:¬pos<bs.size:=by simpa[jN]using j
  refine⟨.tuple #[.bool false],?_,by simp only[aC,aF,bO];exact⟨_,⟨_,_,rfl,rfl,rfl⟩,rfl⟩,by simp[aH]⟩;simp only[dy,i,c];refine fP ?_;simp[gb,getObj,hF,k1,hC,k]
theorem YN{T u:db}{x:dp}{f:Nat}{fs:Array ed}{t g:PV}{F:db}(h:o.op= .field T x f)(hk:kindOf P T= .agg u)(b:P.underlying T=some (.struct fs))(hx:ρ x= .p t)(hs:aL t= .agg u)(e:(bW t)[f]?=some g)(m:(kC P u)[f]?=some F)(q:kindOf P F=aL g):
 bF P o ρ base {v:=.p g}:=by
 refine bF.same fun H w aa ag β I C s _=>?_;have a:=(s x (by simp[h,gg])).1;rw[hx]at a;simp only[aC]at a;cases t<;>simp[aL]at hs;rename_i u' k;subst hs;simp only[bW]at e;simp only[aF]at a;obtain⟨l,d,k1,k2,k3⟩:=a;obtain⟨B,D,s1,s2,E,j,G,z⟩:=xc (P:=P) (T:=T) (u:=u') (n:=fs.size) (by unfold eC;rw[hk,b]);rw[b]at s1;cases s1;rw[k1]at j;cases j;have r:bV P w aa ⟨id,id⟩ [] l (k.map .p) d:=pD.2 k2;obtain⟨pre,c,post,e1,e2,e3,e4,e5,_⟩:=vo (f:=.p g) (i:=f) r (by simp[e]);simp only[bB]at e5;obtain⟨A,g1,g2,g3,g4,g5⟩:=z f o_;rw[m]at g5;cases g5;obtain⟨y,y1,y2⟩:=sV q e5 (pre:=pre) (post:=post) (cs:=d.flatten.toArray) (by simpa using e1);refine⟨y,?_,by simpa only[aC]using y2,by simp[aH]⟩;simp only[dy,h,k3];refine fP ?_;rw[e2,<-g2]at y1;simp only[Instr.field,hD,dg b,hw,g1];simp[asAgg,y1]
theorem Wm{T u:db}{n:Nat}{x k:dp}{N:ea}{i:Int}{a:List PV}{g:PV}{F:db}(j:o.op= .index T x k)(A:iJ P T=some (u,n))(hx:ρ x= .p (.st u a))(hi:ρ k= .p (.int N i))
 (z:0<=i)(hn:i.toNat<n)(h:(kC P u)[i.toNat]?=some F)(E:a[i.toNat]?=some g)(G:kindOf P F=aL g):bF P o ρ base {v:=.p g}:=by
 refine bF.same fun H w aa ag β Q O t _=>?_;have b:=(t x (by simp[j,gg])).1;have d:=(t k (by simp[j,gg])).1;rw[hx]at b;rw[hi]at d;simp only[aC,aF]at b d;obtain⟨l,m,k1,k2,k3⟩:=b;obtain⟨e,s,hk,r,J⟩:=vf A;rw[k1]at r;cases r;have B:F=e:=by
  obtain⟨D,_,_⟩:=DL hk;have C:(P.info? u).map (fun i:TypeInfo=>i.desc)=some (.array n e):=by rw[D,<-Dw,s]
  unfold kC at h;rw[C]at h;have q:(hV n e)[i.toNat]?=some F:=h;rw[List.getElem?_replicate,if_pos hn]at q;exact(mt q).symm
 subst B;have K:bV P w aa ⟨id,id⟩ [] (hV n (P.cellsOf F)) (a.map .p) m:=pD.2 k2;obtain⟨pre,c,post,e1,e2,e3,e4,e5,_⟩:=vo (f:=.p g) (i:=i.toNat) K (by simp[E]);simp only[bB]at e5;obtain⟨y,y1,y2⟩:=sV G e5 (pre:=pre) (post:=post) (cs:=m.flatten.toArray) (by simpa using e1);have L:((hV n (P.cellsOf F)).take i.toNat).sum=i.toNat*P.cellsOf F:=by rw[List.take_replicate,Nat.min_eq_left o_,List.sum_replicate_nat]
 have M:(sizeOf F).run P w=.ok (P.cellsOf F) w:=by
  cases hi:P.info? F with
  |none=>simp[Program.cellsOf,hi]at J
  |some i=>simp[sizeOf,typeInfo,hi,Program.cellsOf]
 refine⟨y,?_,by simpa only[aC]using y2,by simp[aH]⟩;simp only[dy,j,k3,d];refine fP ?_;have I:i<(n:Int):=o_
 rw[e2,L]at y1;simp only[Instr.index,asIntOf,hD,hE,dg s,hw];simp[z,I,M,y1]
theorem Kp{k:ea}{f:Bool}{ρc:dp->dl}:∀(l:List dp)(a n:Int),nj k f (l.map ρ) a=some n->(∀x∈l,aC P w aa β H (ρ x) (ρc x))->
 ((l.map ρc).foldlM (if f then ew else er) (.int k a)).run P w=.ok (.int k n) w
 |[],a,n,h,_=>by simp[nj]at h;subst h;simp
 |x::l,a,n,h,g=>by
  simp only[hW]at h;unfold nj at h
  split at h
  ·rename_i e;cases e
  ·rename_i j b r a' e;simp at e;obtain⟨e1,rfl⟩:=e
   split at h
   case isFalse=>simp at h
   rename_i hk;subst hk;have d:=g x s_;rw[e1]at d;simp only[aC,aF]at d;have c:=Kp l _ n h (fun y i=>g y (by simp[i]));simp only[hW,List.foldlM_cons,hD,d];cases f with
   |true=>simp only[if_true,ew,hE,hw]at c⊢;exact c
   |false=>simp only[c6,if_false,er,hE,hw]at c⊢;exact c
  ·simp at h
theorem Lt{c:Call}{isMax:Bool}{k:ea}{a n:Int}{r:List AV}(m:o.op= .call c)(hc:c.callee= .builtin (if isMax then .max else .min))(b:c.args.toList.map ρ= .p (.int k a)::r)(h:nj k isMax r a=some n):
 bF P o ρ base {v:=.p (.int k n)}:=by
 obtain⟨x,l,i⟩:∃x l,c.args.toList=x::l:=by
  cases s:c.args.toList with
  |nil=>rw[s]at b;simp at b
  |cons x l=>exact⟨x,l,rfl⟩
 rw[i]at b;simp at b;obtain⟨hx,rfl⟩:=b;have g:c.args=(x::l).toArray:=by apply b2;simpa using i
 have j:∀y∈x::l,y∈o.op.operands:=by
  intro y f;rw[m];simp only[gg,fa,hc,g];simpa using f
 refine bF.same fun H w aa ag β t u q _=>⟨.int k n,?_,by simp[aC,aF],by simp[aH]⟩
 have d:=(q x (j x s_)).1;rw[hx]at d;simp only[aC,aF]at d;have e:=Kp (ρc:=t) l a n h (fun y f=>(q y (j y (by simp[f]))).1);simp only[dy,m,resolve,hc,g];cases isMax with
 |true=>
  simp only[if_true]at e⊢;simp[invoke,builtin,e8,d,e]
 |false=>
  simp only[c6,if_false]at e⊢;simp[invoke,builtin,e7,d,e]
end
section
variable{P:da}{w:dx}{aa ag:Nat->Prop}{β:Bd}{H:ah}
variable{o:Oper}{ρ:dp->AV}{base:Nat}
theorem aAK{c:Call}{x:dp}(e:o.op=.call c){b:Builtin}(hc:c.callee=.builtin b)(d:c.args.toList=[x]):x∈o.op.operands/\c.args=#[x]:=by
 have a:c.args=#[x]:=by apply b2;simpa using d
 refine⟨?_,a⟩;rw[e];simp only[gg,fa,hc,a];simp
theorem UX{c:Call}{x:dp}{H0:ah}{b aE al off len:Nat}{k:AK}{a:List AV}(i:o.op= .call c)(hc:c.callee= .builtin .unsafeSliceData)(j:c.args.toList=[x])
 (hx:ρ x=.sl b aE al off len)(t:H0[b]?=some (.arr k aE al a))(u:0<len)(f:off+len<=a.length):bF P o ρ base {v:=.cm b aE al off [],aA:=[(b,.arr k aE al a)]}:=by
 obtain⟨n,l⟩:=aAK i hc j;refine bF.same fun H w aa ag β z p q m=>?_;obtain⟨d,e⟩:=q x n;have g:H[b]?=some (.arr k aE al a):=by simpa using m
 rw[hx]at d e;simp only[aC,bX,cg]at d;obtain⟨_,v2,v3⟩:=d.2 k a g;have hn:¬dQ k a:=fun h=>by rw[h.2]at f;simp at f;omega
 refine⟨.pointer (some ⟨β.aw b,off*al,none⟩),?_,?_,by simpa only[aH]using e⟩
 ·simp only[dy,i,resolve,hc,l];simp only[hD,hE,hw,invoke,builtin,kv,hW,i9];obtain⟨_,_,_,_,_,_,_,_,k5,_⟩:=(p.du b _ g).resolve_left hn;rw[v3 hn,Lib.run_unsafeSliceData_row w _ _ _ _ _ o_];rfl
 ·simp only[aC,bX,cg];exact⟨by simp[hM],β.aw b,off*al,0,s_,rfl,fun y r s _=>⟨rfl,s_⟩⟩
theorem X6(w:dx)(a:Addr)(n:Nat):(w.freeze a n).os=w.os/\(w.freeze a n).output=w.output:=by
 unfold World.freeze
 first|exact⟨rfl,rfl⟩|(split<;>exact⟨rfl,rfl⟩)
theorem XY{w':dx}(g:cj P w aa β H ag){b:Nat}{o:Obj}(f:H[b]?=some o)(t:o.live)(d:¬aa (β.aw b)/\¬ag (β.aw b))(A:∀L,o≠ .loop L)(B:w'.heap.size=w.heap.size)
 (hs:∀k,k≠β.aw b->w'.heap[k]?=w.heap[k]?)(z:w'.os=w.os/\w'.output=w.output:=by exact⟨rfl,rfl⟩):cd P ag aa w β H aa w' β (H.set b .dead):=by
 have m:b<H.length:=(hQ.1 f).1;have j:∀(x:Nat)(a:Obj),(H.set b Obj.dead)[x]?=some a->a≠.dead->H[x]?=some a:=by
  intro x a hx p
  by_cases i:b=x
  ·subst i;rw[hS m]at hx;cases hx;exact(p rfl).elim
  ·rwa [h0 i]at hx
 have aS:cK β H β (H.set b .dead):=by
  refine⟨?_,?_⟩
  ·rintro k x _ ⟨C,h,n⟩;exact⟨⟨C,j _ _ h (fun e=>by rw[e]at n;cases n),n⟩,rfl⟩
  ·intro x aE al k u _ h;exact⟨k,u,j _ _ h s_,ll _,Iff.rfl,fun _=>⟨rfl,rfl⟩⟩
 have l:cd P ag aa w β H aa w β (H.set b .dead):=
  cd.set g m (fun _ _=>⟨rfl,rfl⟩) (fun _ x=>x) (fun _ x=>.inl x) g.b8 (ll _) (fun _ _ _=>rfl) (fun h=>h.elim) aS trivial trivial (fun _ _ _ _=>trivial) (fun L r=>by rw[f]at r;cases r;exact(A L rfl).elim)
 have hx:=g.pO f t;have v:=l.rel.Mj hx (fun x a q c s=>by
  have p:a≠.dead:=fun e=>by rw[e]at c;exact c
  have i:x=b:=g.inj x b a o (j _ _ q p) f c t (fun hi=>d.1 (s▸hi)) s;subst i;rw[hS m]at q;cases q;exact c)
 have y:=v.shut (w':=w') (Prot0:=ag) (fun _ h=>.inl h) (R:=fun k=>k=β.aw b) (fun x e=>⟨.inr e,e▸d.1⟩) B (fun k hk=>hs k hk);refine⟨fun _ h=>h,fun _ h=>.inl h,⟨o_,fun k hk=>hs k (fun e=>?_),z⟩,aS,y,l.ir,l.loop⟩;rcases hk with hk|hk
 ·exact d.2 (e▸hk)
 ·exact d.1 (e▸hk)
theorem KG:∀{d:List AV}{l:List Nat}{b:List (List dl)},bytesOf d=some l->Row P w aa β H 1 d b->b.flatten=l.map (fun c=>hN .u8 (c:Nat))/\l.length=d.length/\∀c∈l,c<256
 |[],l,b,h,a=>by
  simp[bytesOf]at h;subst h;rw[iS]at a;subst a;simp
 |v::d,l,b,h,a=>by
  unfold bytesOf at h
  split at h
  ·rename_i e;cases e
  ·rename_i c r e;simp at e;obtain⟨rfl,rfl⟩:=e
   split at h
   case isFalse=>simp at h
   rename_i hc
   split at h
   case h_2=>simp at h
   rename_i m i;simp at h;subst h;rw[sD]at a;obtain⟨j,cs,rfl,f,k,g⟩:=a;obtain⟨i1,i2,i3⟩:=KG i g;simp only[bB,aX]at f;subst f;refine⟨by simp[i1];omega,by simp[i2],?_⟩;intro x hx;rcases hU.1 hx with rfl|hx
   ·omega
   ·exact i3 x hx
  ·simp at h
theorem U3{c:Call}{x y:dp}{b aE n:Nat}{d:List AV}{l:List Nat}{T X:db}(F:o.op= .call c)(hc:c.callee= .builtin .unsafeString)(N:c.args.toList=[x,y])(ac:c.argTypes=#[T,X])(hx:ρ x= .cm b aE 1 0 [])(ae:ρ y= .p (.int .i64 n))
 (ai:0<n)(C:n<=d.length)(aj:n<=9223372036854775807)(M:P.underlying T=some (.pointer Gl.u8))(ad:P.cellsOf Gl.u8=1)(W:bytesOf (d.take n)=some l):
 bF P o ρ base {v:=.p (.str l),aA:=[(b,.arr .bytes aE 1 d)],aO:=[(b,.dead)]}:=by
 have s:c.args=#[x,y]:=by apply b2;simpa using N
 have D:x∈o.op.operands/\y∈o.op.operands:=by
  rw[F];simp[gg,fa,hc,s]
 intro H w aa ag β r G I aA _;have q:H[b]?=some (.arr .bytes aE 1 d):=by simpa using aA
 have e:=(I x D.1).1;have f:=(I y D.2).1;rw[hx]at e;rw[ae]at f;simp only[aC,bX,cg,aF]at e f;have i:¬dQ .bytes d:=fun h=>by rw[h.2]at C;simp at C;omega
 obtain⟨_,aw,off,ak,Y,E,e⟩:=e;simp[gT]at E;subst E;obtain⟨rfl,rfl⟩:=e _ _ q i;rcases G.du b _ q with hold|⟨cs,af,ah,rest,k1,k2,k3,k4,k5,k6,k7,k8⟩
 ·exact(i hold).elim
 obtain rfl:=k8.2 rfl;have U:¬aa (β.aw b)/\¬ag (β.aw b):=by
  unfold dD at k7;rw[if_neg s_]at k7;exact k7
 obtain⟨a,m,z,g1,g2,g3,g4,g5⟩:=n6 k2 0 n o_;have O:a=[]:=by have:=(jb g4).1;simpa using this
 subst O;rw[lc]at g2;obtain⟨J,K,L⟩:=KG W g2;obtain⟨bs,u⟩:∃bs:List UInt8,bs=l.map UInt8.ofNat:=⟨_,rfl⟩
 have g:bs.length=n:=by rw[u];simp[K];omega
 have t:bs.map (·.toNat)=l:=by
  rw[u,j5]
  conv=>rhs;rw[<-jp l]
  refine kb fun c hc=>?_;have:=L c hc;simp[UInt8.toNat_ofNat'];omega
 have A:cs.toList=bs.map (fun c=>hN .u8 c.toNat)++(z.flatten++rest):=by
  rw[k3,g1];simp only[lb,kc,ip,J];congr 1;rw[<-t,j5];rfl
 have ab:=Lib.run_unsafeString_row (P:=P) w T X o.type Gl.u8 M ad (β.aw b) cs.size (by simp[World.shape?,k1]) bs (fun h=>by rw[h]at g;simp at g;omega) (by
  have:=congrArg lk A;simp only[b5,hT,j2]at this;omega) o_ (fun j v B=>by
  have V:j<bs.length:=(hQ.1 B).1;rw[lI];have:cs[j]?=some (.int .u8 v.toNat):=by
   rw[<-b4,A,j3 (by simpa using V),List.getElem?_map,B];rfl
  simp[World.cell?,k1,this])
 have Q:(dy r o).run P w=.ok (.value (.string ⟨bs.toArray⟩)) (w.freeze ⟨β.aw b,0,none⟩ bs.length):=by
  simp only[dy,F,resolve,hc,s];simp only[hD,hE,hw,invoke,builtin,kv,hW,i9];have key:(eP c.argTypes o.type #[r x,r y]).run P w=.ok (.string ⟨bs.toArray⟩) (w.freeze ⟨β.aw b,0,none⟩ bs.length):=by
   rw[ac,Y,f,<-g];simpa using ab
  rw[key];rfl
 have S:∀k,k≠β.aw b->(w.freeze ⟨β.aw b,0,none⟩ bs.length).heap[k]?=w.heap[k]?:=by
  intro k hk;unfold World.freeze
  split
  ·rfl
  ·simp[Array.getElem?_modify,mj hk]
 have R:(w.freeze ⟨β.aw b,0,none⟩ bs.length).heap.size=w.heap.size:=by
  unfold World.freeze
  split<;>simp
 have Z:=XY G q i U (fun _ h=>by cases h) R S (X6 _ _ _);refine⟨_,_,_,β,aa,Q,.inl rfl,?_,?_,by simp[aH]⟩
 ·simpa only[newAt,hX,bt]using Z
 ·simp only[aC,aF];exact⟨_,rfl,by simpa using t.symm⟩
end
section
variable{P:da}
theorem qH(an:dq->Bool):mW P an:=by
 intro o ρ H K _ h;unfold gd at h;have plain:∀{e:aY},K e->bF P o ρ H.length e->e.aA=[]->e.aO=[]->∃e,K e/\bF P o ρ H.length e/\(∀p∈e.aA,H[p.1]?=some p.2)/\(∀p∈e.aO,p.1<H.length/\p.2≠.hole):=by
  intro e q w B G;exact⟨e,q,w,by simp[B],by simp[G]⟩
 cases j:o.op<;>simp only[j]at h
 case move x=>exact plain h (R7 (.inl j)) rfl rfl
 case assign x=>exact plain h (R7 (.inr j)) rfl rfl
 case pick c a b=>
  split at h
  ·rename_i t hc;exact plain h (aAS j hc) rfl rfl
  ·exact h.elim
 case alloc T=>
  split at h
  ·rename_i z hz;exact plain h.2.2.2 (YP j hz h.2.2.1) rfl rfl
  ·exact h.elim
 case box T x=>exact plain h.2.2.2 (aAN j h.2.1 h.2.2.1) rfl rfl
 case build T parts=>
  split at h
  ·rename_i u z hk hz
   split at h
   ·rename_i l A;obtain⟨q,w,B⟩:=h;exact plain B (YO j hk hz A q w) rfl rfl
   ·exact h.elim
  ·exact h.elim
 case buildSlice T n parts=>
  split at h
  ·rename_i sz z R hz;obtain⟨q,w,B,G⟩:=h;exact plain G (Vp j R hz q w B) rfl rfl
  ·exact h.elim
 case load T a=>exact aAQ j h
 case store T a x=>exact Zj j h
 case binOp b T x y ao=>
  obtain⟨v,q,w⟩:=aAM (base:=H.length) j h;exact⟨_,q,w,qI,s_⟩
 case unOp u T x=>
  split at h
  ·rename_i b hx;exact plain h (Gy j hx (.inl ⟨rfl,_,rfl,rfl⟩)) rfl rfl
  ·rename_i k n hx;exact plain h (Gy j hx (.inr (.inl ⟨rfl,_,_,rfl,rfl⟩))) rfl rfl
  ·rename_i k n hx;exact plain h (Gy j hx (.inr (.inr ⟨rfl,_,_,rfl,rfl⟩))) rfl rfl
  ·exact h.elim
 case convert S D x=>
  split at h
  ·rename_i d k k0 n V Q hx;exact plain h (WE j ⟨_,V⟩ Q hx) rfl rfl
  ·rename_i d s V Q hx;exact plain h (WD j ⟨_,V⟩ Q hx) rfl rfl
  ·exact h.elim
 case extract t i=>
  split at h
  ·rename_i vs ab
   split at h
   ·rename_i v ac;exact plain h (Ld j (.inr ⟨_,ab,rfl⟩) (by simp[ac])) rfl rfl
   ·exact h.elim
  ·rename_i vs ab
   split at h
   ·rename_i v ac;exact plain h (Ld j (.inl ab) ac) rfl rfl
   ·exact h.elim
  ·exact h.elim
 case fieldAddr T a f=>
  obtain⟨e,q,w,B,G⟩:=Vz (base:=H.length) j h;exact plain q w B G
 case indexAddr T x i=>
  obtain⟨e,q,w,B,G⟩:=Vy (base:=H.length) j h;exact⟨e,q,w,B,by simp[G]⟩
 case field T x f=>
  split at h
  ·rename_i u fs t hk aj hx;obtain⟨q,h⟩:=h
   split at h
   ·rename_i g F Y U;exact plain h.2 (YN j hk aj hx q Y U h.1) rfl rfl
   ·exact h.elim
  ·exact h.elim
 case index T x i=>
  split at h
  ·rename_i s k n hx hi;obtain⟨q,w,B,G⟩:=h;exact plain G (Wl j hx hi q w B) rfl rfl
  ·rename_i u N k n hx hi
   split at h
   ·rename_i u' m F g J U Y;obtain⟨rfl,ah,hn,hk,h⟩:=h;exact plain h (Wm j J hx hi ah hn U Y hk) rfl rfl
   ·exact h.elim
  ·exact h.elim
 case makeFunc fn aq ap=>
  cases fn<;>simp only at h
  case func f=>
   obtain⟨m1,m2,m3⟩:=Wj (ρ:=ρ) (base:=H.length) j
   split at h
   ·split at h
    ·rename_i a b aA aO I W;obtain⟨q1,ae,am⟩:=m3 H a b aA aO I W;exact⟨_,h,q1,ae,am⟩
    ·exact h.elim
   ·split at h
    ·rename_i a b I W;exact plain h (m1 a b I W) rfl rfl
    ·exact plain h m2 rfl rfl
 case makeSlice T l c=>
  split at h
  ·rename_i sz z ar c' R hz A hc;obtain⟨q,w,rfl,G,O⟩:=h;exact plain O (Vx j R hz A hc q w G) rfl rfl
  ·exact h.elim
 case slice T x lo hi al=>
  cases al<;>simp only at h;obtain⟨e,q,w,B,G⟩:=YL (base:=H.length) j h;exact⟨e,q,w,B,by simp[G]⟩
 case makeMap T r=>
  cases r<;>simp only at h;exact plain h (WC j) rfl rfl
 case lookup T x i ok=>
  split at h
  case h_2=>exact h.elim
  rename_i af E key J hi
  split at h
  case h_2=>exact h.elim
  rename_i z hz;obtain⟨hk,h⟩:=h
  split at h
  ·rename_i hx;exact plain h (xp (r:=none) (es:=[]) j J hz hi hk rfl (.inl ⟨hx,rfl⟩)) rfl rfl
  ·rename_i N hx
   split at h
   ·rename_i v A;exact plain h (xp (r:=some v) j J hz hi hk A (.inr (.inl hx))) rfl rfl
   ·rename_i A;exact plain h (xp (r:=none) j J hz hi hk A (.inr (.inl hx))) rfl rfl
   ·exact h.elim
  ·rename_i b hx
   split at h
   case h_2=>exact h.elim
   ·rename_i fz N C
    split at h
    ·rename_i v A;exact⟨_,h,xp (r:=some v) j J hz hi hk A (.inr (.inr ⟨b,fz,hx,s_⟩)),by simpa using C,s_⟩
    ·rename_i A;exact⟨_,h,xp (r:=none) j J hz hi hk A (.inr (.inr ⟨b,fz,hx,s_⟩)),by simpa using C,s_⟩
    ·exact h.elim
  ·exact h.elim
 case mapUpdate T m k x=>
  split at h
  case h_2=>exact h.elim
  rename_i af E b key v J Z hk hx;obtain⟨hf,h⟩:=h
  split at h
  case h_2=>exact h.elim
  rename_i N C
  split at h
  case h_2=>exact h.elim
  rename_i r A;exact⟨_,h,Ki (.inl j) J Z hk hx hf A,by simpa using C,by simpa using(hQ.1 C).1⟩
 case insert T m k x=>
  split at h
  case h_2=>exact h.elim
  rename_i af E b key v J Z hk hx;obtain⟨hf,h⟩:=h
  split at h
  case h_2=>exact h.elim
  rename_i N C
  split at h
  case h_2=>exact h.elim
  rename_i r A;exact⟨_,h,Ki (.inr j) J Z hk hx hf A,by simpa using C,by simpa using(hQ.1 C).1⟩
 case range T x=>
  split at h
  ·rename_i s hx;exact plain h.2 (YM j hx h.1) rfl rfl
  ·exact h.elim
 case next it isStr=>
  cases isStr<;>simp only at h
  split at h
  case h_2=>exact h.elim
  rename_i b hx
  split at h
  case h_2=>exact h.elim
  rename_i s pos C;obtain⟨n1,n2⟩:=aAR (P:=P) (base:=H.length) (s:=s) (pos:=pos) j hx
  split at h
  ·rename_i aa;exact⟨_,h,n1 aa,by simpa using C,by simpa using(hQ.1 C).1⟩
  ·rename_i aa;exact⟨_,h,n2 aa,by simpa using C,s_⟩
 case nilCheck x=>
  split at h
  ·rename_i b p hx;exact plain h (Dy j (.inl ⟨b,p,hx⟩)) rfl rfl
  ·rename_i b v e i p hx;exact plain h (Dy j (.inr (.inl ⟨b,v,e,i,p,hx⟩))) rfl rfl
  ·rename_i t hx;exact plain h (Dy j (.inr (.inr ⟨t,hx⟩))) rfl rfl
  ·exact h.elim
 case call c=>
  split at h
  case h_2=>exact h.elim
  rename_i b hc
  split at h
  ·rename_i x I
   split at h
   case h_2=>exact h.elim
   rename_i n aA A;obtain⟨q,w,B⟩:=h;obtain⟨y,_,M,rfl,L⟩:=hZ.1 I;obtain rfl:=ik.1 L;obtain⟨q1,ae⟩:=aAP (P:=P) (base:=H.length) j hc M A q w;exact⟨_,B,q1,ae,s_⟩
  ·rename_i s x I;obtain⟨y,_,M,rfl,L⟩:=hZ.1 I;obtain⟨z,_,rfl,rfl,hq⟩:=hZ.1 L;obtain rfl:=ik.1 hq;exact XI j hc M h.1 h.2
  ·rename_i k a r I
   split at h
   ·rename_i n hn;exact plain h (Lt (isMax:=false) j hc I hn) rfl rfl
   ·exact h.elim
  ·rename_i k a r I
   split at h
   ·rename_i n hn;exact plain h (Lt (isMax:=true) j hc I hn) rfl rfl
   ·exact h.elim
  ·rename_i I;obtain⟨y,_,M,ad,L⟩:=hZ.1 I;obtain rfl:=ik.1 L
   split at h
   case h_2=>exact h.elim
   rename_i C;obtain⟨rfl,rfl,q,w,B⟩:=h;exact⟨_,B,UX j hc M ad C q w,by simpa using C,s_⟩
  ·rename_i n I;obtain⟨y,_,M,ad,L⟩:=hZ.1 I;obtain⟨z,_,rfl,ak,hq⟩:=hZ.1 L;obtain rfl:=ik.1 hq
   split at h
   case h_2=>exact h.elim
   rename_i C;obtain⟨rfl,rfl,rfl,rfl,q,w,B,G,J,ai,h⟩:=h
   split at h
   case h_2=>exact h.elim
   rename_i l A;obtain⟨T,X,ag⟩:∃T X,c.argTypes=#[T,X]:=by
    obtain⟨l,A⟩:∃l,c.argTypes.toList=l:=⟨_,rfl⟩
    have O:l.length=2:=by rw[<-A];simpa using G
    match l,O with
    |[a,b],_=>exact⟨a,b,by apply b2;simp[A]⟩
   obtain⟨m,rfl⟩:=Int.eq_ofNat_of_zero_le (by omega:0<=n);simp only[hP]at w A;rw[ag]at J;exact⟨_,h,U3 j hc M ag ad ak o_ w o_ J ai A,by simpa using C,by simpa using(hQ.1 C).1⟩
  ·exact h.elim
end
section
variable{P:da}{an:dq->Bool}{n:Nat}
theorem Mb{o o':Obj}(h:nE o=some o'):nE o'=some o':=by
 unfold nE at h
 split at h
 ·simp at h;subst h;rfl
 ·rename_i k aE al b
  split at h
  ·simp at h
  ·split at h
   ·rename_i l a;simp at h;subst h;simp[nE,AK.gr,a]
   ·simp at h
 ·simp at h;subst h;rfl
 ·simp at h
theorem aog{w:dx}{aa ag:Nat->Prop}{β:Bd}{H:ah}(d:cj P w aa β H ag){b:Nat}{o o':Obj}(c:H[b]?=some o)(hf:nE o=some o'):
 ∃aG,cd P ag aa w β H aG w β (H.set b o')/\aG (β.aw b):=by
 unfold nE at hf
 split at hf
 ·rename_i fz t;simp at hf;subst hf;obtain⟨cs,T,g,i,j,m⟩:=d.du b _ c;have aS:cK β H β (H.set b (.box true (.p t))):=mq c;exact uN d c trivial (o':=.box true (.p t)) trivial (fun _ h=>h) (fun _ h=>by cases h) aS j.vF
   (fun aG hi l=>⟨cs,T,g,bB.mono hi (fun _ _=>rfl) aS _ _ (by simp[aH]) i,l,fun _=>trivial,m.2⟩) (by simp[Obj.refs,aH])
 ·rename_i k aE al f
  split at hf
  ·simp at hf
  ·rename_i hn
   split at hf
   case h_2=>simp at hf
   rename_i B y;simp at hf;subst hf;have q:=nq y;rcases d.du b _ c with hold|⟨cs,T,s,rest,g,i,j,m,v,z,x,A⟩
   ·exact(hn hold).elim
   have r:¬dQ .frozen f:=fun h=>by cases h.1
   have aS:cK β H β (H.set b (.arr .frozen aE al f)):=IB c hn r;exact uN d c hn (o':=.arr .frozen aE al f) r (fun _ h=>h) (fun _ h=>by cases h) aS x.vF
    (fun aG hi l=>.inr ⟨cs,T,s,rest,g,bV.mono hi (fun _ _=>rfl) aS _ _ _ (d.refs b _ c) i,j,m,v,(fun h=>by cases h),l,fun _ e n=>(by rw[q]at n;simp at n;obtain⟨a,_,rfl⟩:=n;trivial),fun h=>by cases h⟩)
    (by rw[q];exact jM _ _)
 ·rename_i fz f;simp at hf;subst hf;obtain⟨u,clock,g,i,j⟩:=d.du b _ c;have aS:cK β H β (H.set b (.map true f)):=mq c;exact uN d c trivial (o':=.map true f) trivial (fun _ h=>h) (fun _ h=>by cases h) aS j.vF
   (fun aG hi l=>⟨u,clock,g,cW.mono hi (fun _ _=>rfl) _ _ i,l⟩) trivial
 ·simp at hf
theorem KJ{w:dx}{ag:Nat->Prop}{β:Bd}{H0:ah}:∀(bs:List Nat){aA aO:List (Nat×Obj)}{H:ah}{aa:Nat->Prop},mu H0 bs=some (aA,aO)->cj P w aa β H ag->
 (∀p∈aA,∃c,H[p.1]?=some c/\nE c=nE p.2)->∃aG,cd P ag aa w β H aG w β (bt H aO)/\∀b∈bs,aG (β.aw b)
 |[],aA,aO,H,aa,h,a,_=>by
  simp[mu]at h;obtain⟨rfl,rfl⟩:=h;exact⟨aa,cd.refl a,s_⟩
 |b::bs,aA,aO,H,aa,h,a,hc=>by
  simp only[mu]at h
  split at h
  case h_2=>simp at h
  rename_i o q s r g
  split at h
  case h_2=>simp at h
  rename_i o' hf;simp at h;obtain⟨rfl,rfl⟩:=h;obtain⟨c,g1,g2⟩:=hc (b,o) s_;simp only at g1 g2;rw[hf]at g2;obtain⟨n,e,l⟩:=aog a g1 g2;have i:b<H.length:=(hQ.1 g1).1;obtain⟨f,q1,m⟩:=KJ bs g e.rel (by
   intro p j;obtain⟨k,k1,k2⟩:=hc p (by simp[j])
   by_cases d:b=p.1
   ·rw[<-d]at k1⊢;rw[g1]at k1;cases k1;refine⟨o',by rw[hS i],?_⟩;rw[<-k2,g2,Mb g2]
   ·exact⟨k,by rw[h0 d];exact k1,k2⟩)
  refine⟨f,by simpa only[bt]using e.trans q1,?_⟩;intro x hx;rcases hU.1 hx with rfl|hx
  ·exact q1.b8 _ l
  ·exact m x hx
theorem Mc{H0:ah}:∀(bs:List Nat){aA aO:List (Nat×Obj)},mu H0 bs=some (aA,aO)->(∀p∈aA,H0[p.1]?=some p.2)/\(∀p∈aO,p.1<H0.length/\p.2≠.hole)/\aA.map (·.1)=bs
 |[],aA,aO,h=>by
  simp[mu]at h;obtain⟨rfl,rfl⟩:=h;simp
 |b::bs,aA,aO,h=>by
  simp only[mu]at h
  split at h
  case h_2=>simp at h
  rename_i o f g d e
  split at h
  case h_2=>simp at h
  rename_i o' hf;simp at h;obtain⟨rfl,rfl⟩:=h;obtain⟨i1,i2,i3⟩:=Mc bs e;refine⟨?_,?_,by simp[i3]⟩
  ·intro p a;rcases hU.1 a with rfl|a
   ·exact d
   ·exact i1 p a
  ·intro p a;rcases hU.1 a with rfl|a
   ·refine⟨(hQ.1 d).1,fun c=>?_⟩;simp only at c;have:=Mb hf;rw[c]at this;simp[nE]at this
   ·exact i2 p a
theorem Zf{w:dx}{aa aG ag:Nat->Prop}{β:Bd}{H0 H:ah}{a:AV}{pv:PV}{bs:List Nat}{v:dl}(d:nN H0 a=some (pv,bs))(aA:∀b∈bs,H[b]?=H0[b]?)(n:cj P w aa β H ag)(e:aC P w aa β H a v)
 (hi:∀k,aa k->aG k)(r:∀b∈bs,aG (β.aw b)):aF P w aG pv v:=by
 cases a with
 |p t=>
  simp[nN]at d;obtain⟨rfl,rfl⟩:=d;simp only[aC]at e;exact aF.mono hi (fun _ _=>rfl) _ _ e
 |sl b aE al off len=>
  simp only[nN]at d
  split at d
  case h_2=>simp at d
  rename_i k R L g l
  split at d
  case isFalse=>simp at d
  rename_i E;obtain⟨rfl,rfl,Q⟩:=E
  split at d
  ·simp at d
  ·rename_i hn
   split at d
   case h_2=>simp at d
   rename_i y G;simp at d;obtain⟨rfl,rfl⟩:=d;have x:=nq G;have f:H[b]?=some (.arr k aE al g):=by rw[aA b s_];exact l
   have j:=r b s_;simp only[aC,bX,cg]at e;obtain⟨v1,v2,v3⟩:=e.2 k g f;rcases n.du b _ f with hold|⟨cs,T,z,rest,i,h,q,C,M,D,N,O⟩
   ·exact(hn hold).elim
   rw[v3 hn];have I:Row P w aG β H al g z:=bV.mono hi (fun _ _=>rfl) (cK.refl _ _) _ _ _ (n.refs b _ f) h;obtain⟨a,m,c,e1,e2,e3,e4,e5⟩:=n6 I off len v1;rw[x,Dv,nr]at e2;have u:((y.drop off).take len).length=len:=by
    have:g.length=y.length:=by rw[x];simp
    simp;omega
   simp only[aF];refine⟨β.aw b,off*al,β.cap b-off,al,m,e2,fun _=>j,?_,?_,?_,none,.inl rfl,?_⟩
   ·rw[<-e3];exact mZ i (post:=c.flatten++rest) (by rw[q,e1];simp)
   ·intro hf;simp at hf;rw[u,D hf.1];omega
   ·rw[u];omega
   ·rw[u]
 |ptr b path=>
  simp only[nN]at d
  split at d
  case h_2=>simp at d
  rename_i fz t l
  split at d
  case h_2=>simp at d
  rename_i s hs;simp at d;obtain⟨rfl,rfl⟩:=d;have f:H[b]?=some (.box fz (.p t)):=by rw[aA b s_];exact l
  have j:=r b s_;simp only[aC,bX,cg]at e;obtain⟨_,K,J,o,rfl,F,e⟩:=e;obtain⟨rfl,rfl⟩:=e ⟨_,f,rfl⟩;obtain⟨cs,T,i,h,q,C⟩:=n.du b _ f;have B:aX P w aG t cs.toList:=by simp only[bB]at h;exact aX.mono hi (fun _ _=>rfl) _ _ h
  obtain⟨pre,xs,post,e1,e2,e3⟩:=AO B hs F;simp only[aF];refine⟨β.aw b,J,xs,e3,j,?_,rfl⟩;rw[<-e2];exact mZ i e1
 |map b=>
  simp only[nN]at d
  split at d
  case h_2=>simp at d
  rename_i fz g l;simp at d;obtain⟨rfl,rfl⟩:=d;have f:H[b]?=some (.map fz g):=by rw[aA b s_];exact l
  have j:=r b s_;simp only[aC,bX,cg]at e;have e:=e.2.1 ⟨_,f,rfl⟩;obtain⟨A,clock,i,h,q⟩:=n.du b _ f;simp only[aF];exact⟨β.aw b,A,clock,j,i,cW.mono hi (fun _ _=>rfl) _ _ h,e⟩
 |cm=>simp[nN]at d
 |func=>simp[nN]at d
 |st=>simp[nN]at d
 |aD=>simp[nN]at d
theorem LR{w:dx}{aa aG ag:Nat->Prop}{β:Bd}{H0 H:ah}:∀{l:List AV}{vs:List PV}{bs:List Nat}{d:List dl},pX H0 l=some (vs,bs)->(∀b∈bs,H[b]?=H0[b]?)->cj P w aa β H ag->bK P w aa β H l d->
 (∀k,aa k->aG k)->(∀b∈bs,aG (β.aw b))->bO P w aG vs d
 |[],vs,bs,d,h,_,_,c,_,_=>by
  simp[pX]at h;obtain⟨rfl,rfl⟩:=h;simp only[bK]at c;simpa[bO]using c
 |a::l,vs,bs,d,h,aA,f,c,hi,e=>by
  simp only[pX]at h
  split at h
  case h_2=>simp at h
  rename_i v m o n g i;simp at h;obtain⟨rfl,rfl⟩:=h;simp only[bK]at c;obtain⟨y,j,rfl,k1,k2⟩:=c;simp only[bO];exact⟨y,j,rfl,Zf g (fun b hx=>aA b (by simp[hx])) f k1 hi (fun b hx=>e b (by simp[hx])),LR i (fun b hx=>aA b (by simp[hx])) f k2 hi (fun b hx=>e b (by simp[hx]))⟩
def Act(P:da)(n:Nat)(o:Oper)(s:St)(e:aY):Prop:=
 ∀(fr:ec)(k:List Item)(cs:List ec)(a:Array Oper)(i:Nat)(r:List Nat)(b:List ee)(ag aa:Nat->Prop)(β:Bd)(s':St)(t:Array dl)(w:dx),
  a[i]?=some o->g8 o (yielded a t)=true->jQ n o=true->cQ P n ag aa β s' t w->(∀x∈o.op.operands,ev s'.env x=ev s.env x)->
  (∀p∈e.aA,s'.heap[p.1]?=some p.2)->(∀j,j<e.ba.length->s'.heap[s.heap.length+j]?=some .hole)->
  ∃aG aM c w',eo P (lone (bD fr t b (.inRegion a (i::r)::k)) cs w) (lone (bD fr c b (.inRegion a r::k)) cs w')/\
   cQ P n ag aG aM ⟨put o.dst e.v s'.env,bt s'.heap (e.aO++newAt s.heap.length e.ba)⟩ c w'/\∀N,dU N ag aa w β s'.heap ag aG w' aM (bt s'.heap (e.aO++newAt s.heap.length e.ba))
theorem VY{o:Oper}{K:aY->Prop}{s:St}(h:kq P an o s K)(c:Call):o.op≠.defer c:=by
 intro hc;unfold kq at h;rw[hc]at h;simp[gd,hc]at h
theorem O9{e e':Env}{l:List dp}(h:∀x∈l,ev e' x=ev e x):l.map (ev e')=l.map (ev e):=kb h
theorem MU{o:Oper}{f:dp}{G:Array dp}{am:Array db}{g:dq}{I H:List AV}{K:aY->Prop}{s:St}
 (X:o.op=.call {callee:=.value f,args:=G,argTypes:=am})
 (hf:(ev s.env f=.func g I H)\/(∃a b,ev s.env f=.p (.func g a b)/\I=a.map .p/\H=b.map .p))
 (h:kS P g (I++G.toList.map (ev s.env)++H) s.heap K):
 ∃e,K e/\(∀p∈e.aA,s.heap[p.1]?=some p.2)/\(∀p∈e.aO,p.1<s.heap.length/\p.2≠.hole)/\Act P n o s e:=by
 have R:∀c,o.op≠.defer c:=fun c hc=>by rw[X]at hc;cases hc
 have ad:f∈o.op.operands/\∀x∈G.toList,x∈o.op.operands:=by
  rw[X];simp[gg,fa];exact fun x hx=>.inr hx
 have O:∀{ag aa:Nat->Prop}{β:Bd}{s':St}{t:Array dl}{w:dx},cQ P n ag aa β s' t w->(∀x∈o.op.operands,ev s'.env x=ev s.env x)->
  ∃m:List dl,bK P w aa β s'.heap (I++G.toList.map (ev s.env)++H) m/\aZ (aN s'.heap) (I++G.toList.map (ev s.env)++H)/\(dy (gq t) o).run P w=(callFunc g m.toArray).run P w:=by
  intro ag aa β s' t w d A;have J:=pP d f;rw[A f ad.1]at J;obtain⟨F,cv,ax,aw,au,aD,aB⟩:∃F cv:List dl,gq t f=.func (.func g) F.toArray cv.toArray/\bK P w aa β s'.heap I F/\bK P w aa β s'.heap H cv/\aZ (aN s'.heap) I/\aZ (aN s'.heap) H:=by
   rcases hf with hf|⟨a,b,hf,rfl,rfl⟩
   ·rw[hf]at J;simp only[aC,aH]at J;obtain⟨⟨F,cv,y,z,D⟩,T,ap⟩:=J;exact⟨F,cv,D,y,z,T,ap⟩
   ·rw[hf]at J;simp only[aC,aF]at J;obtain⟨⟨F,cv,y,z,D⟩,_⟩:=J;exact⟨F,cv,D,kG.2 y,kG.2 z,jM _ _,jM _ _⟩
  obtain⟨Z,ab⟩:=xy d G.toList;rw[O9 (fun x hx=>A x (ad.2 x hx))]at Z ab;refine⟨F++G.toList.map (gq t)++cv,so (so aw Z) au,nZ (nZ aD ab) aB,?_⟩;simp only[dy,X,resolve,ax,Deferred.ofValue,hD,hE,hw,invoke];congr 2;simp
 have ak:∀(fr:ec)(k:List Item)(cs:List ec)(l:Array Oper)(i:Nat)(r:List Nat)(u:List ee)(ag aa E:Nat->Prop)(β:Bd)(s':St)(t:Array dl)(w:dx)(H1:ah)(m:List dl)(vs:List PV)(v:PV),
  l[i]?=some o->g8 o (yielded l t)=true->jQ n o=true->cQ P n ag aa β s' t w->(dy (gq t) o).run P w=(callFunc g m.toArray).run P w->
  cd P ag aa w β s'.heap E w β H1->bO P w E vs m->aq P g vs v->
  ∃aG aM al w',eo P (lone (bD fr t u (.inRegion l (i::r)::k)) cs w) (lone (bD fr al u (.inRegion l r::k)) cs w')/\
   cQ P n ag aG aM ⟨put o.dst (.p v) s'.env,H1⟩ al w'/\∀N,dU N ag aa w β s'.heap ag aG w' aM H1:=by
  intro fr k cs l i r u ag aa E β s' t w H1 m vs v q C B d Q j ai M;rcases M with⟨av,M⟩|M
  ·rw[av]at Q;obtain⟨e,w',an,⟨S,aG,V,g1,g2,g3,g4,g5,ao,g6⟩,aS,ay,W⟩:=M w E _ j.rel.b8 j.rel.ks ai (bD fr t u (.inRegion l (i::r)::k)::cs);subst V;have af:=j.trans (j.rel.later g1 g2 g3 g4 g5 ao);refine⟨aG,β,_,w',?_,d.put B af (by simpa[aC]using g6) (by simp[aH]),fun _=>af.fI⟩;rw[<-pq q];exact(hG (xj q C R Q)).trans (hH aS (.one (ei W)))
  ·obtain⟨S,y,z⟩:=M w E _ ai;rw[y]at Q;exact⟨E,β,_,w,.one (uL q C R Q (.inl rfl)),d.put B j (by simpa[aC]using z) (by simp[aH]),fun _=>j.fI⟩
 rcases h with⟨vs,v,y,z,D⟩|⟨vs,bs,aA,aO,v,y,z,D,T⟩|⟨e,Y,ae,U⟩|⟨aA,v,ar,az,U⟩
 ·refine⟨_,D,s_,s_,?_⟩;intro fr k cs l i r u ag aa β s' t w q C B d A _ _;obtain⟨m,c1,c2,c3⟩:=O d A;rw[y]at c1;simp only[newAt,hX,bt];exact ak fr k cs l i r u ag aa aa β s' t w s'.heap m vs v q C B d c3 (cd.refl d.heap) (kG.1 c1) z
 ·obtain⟨i1,i2,i3⟩:=Mc bs z;refine⟨_,T,i1,i2,?_⟩;intro fr k cs l i r u ag aa β s' t w q C B d A L _;obtain⟨m,c1,c2,c3⟩:=O d A;obtain⟨E,aj,aE⟩:=KJ bs z d.heap (fun p j=>⟨p.2,L p j,rfl⟩);simp only[newAt,hX];refine ak fr k cs l i r u ag aa E β s' t w _ m vs v q C B d c3 aj (LR y ?_ d.heap c1 aj.b8 aE) D;intro b ac;rw[<-i3]at ac;obtain⟨p,j,rfl⟩:=j4.1 ac;rw[L p j,i1 p j]
 ·refine⟨_,U,ae.1,ae.2,?_⟩;intro fr k cs l i r u ag aa β s' t w q C B d A L ba;obtain⟨m,c1,c2,c3⟩:=O d A;rw[Y.1]at c3;obtain⟨x,w',an,⟨S,aM,aG,V,g1,g2,g3⟩,aS,ay,W⟩:=Y.2 s'.heap w aa ag β _ d.heap c1 c2 L ba (bD fr t u (.inRegion l (i::r)::k)::cs);subst V;refine⟨aG,aM,_,w',?_,d.put B g1 g2 g3,fun _=>g1.fI⟩;rw[<-pq q];exact(hG (xj q C R c3)).trans (hH aS (.one (ei W)))
 ·refine⟨_,U,az,s_,?_⟩;intro fr k cs l i r u ag aa β s' t w q C B d A L ba;obtain⟨m,c1,c2,c3⟩:=O d A;obtain⟨S,y,D⟩:=ar s'.heap w aa ag β _ d.heap c1 c2 L;rw[y]at c3;have j:=cd.refl d.heap;simp only[newAt,hX,bt];exact⟨aa,β,_,w,.one (uL q C R c3 (.inl rfl)),d.put B j (by simpa[aC]using D) (by simp[aH]),fun _=>j.fI⟩
theorem Xv{o:Oper}{f:dp}{a:Array dp}{y:Array db}{b:Nat}{e:aY}{s:St}
 (j:o.op=.call {callee:=.value f,args:=a,argTypes:=y})(hf:ev s.env f=.map b)(hY:pY P b (a.toList.map (ev s.env)) s.heap.length e):Act P n o s e:=by
 have G:∀c,o.op≠.defer c:=fun c hc=>by rw[j]at hc;cases hc
 have u:f∈o.op.operands/\∀x∈a.toList,x∈o.op.operands:=by
  rw[j];simp[gg,fa];exact fun x hx=>.inr hx
 intro fr k cs I i r z ag aa β s' t w v H C d m E ba;have h:=(pP d f).1;rw[m f u.1,hf]at h;simp only[aC,bX,cg]at h;obtain⟨l,p⟩:=xy d a.toList;rw[O9 (fun x hx=>m x (u.2 x hx))]at l p;obtain⟨F,g,tmps,assign,body,A,B⟩:=hY s'.heap w aa ag β _ d.heap l p E ba;have D:=h.2.2 F;have q:(dy (gq t) o).run P w=(Instr.yield (β.aw b) (a.toList.map (gq t)).toArray).run P w:=by
  simp only[dy,j,resolve,D,Deferred.ofValue,hD,hE,hw,invoke];congr 2;exact b2 s_
 rw[A]at q;obtain⟨cv,w',aM,aG,g1,g2,g3,g4⟩:=B (bD fr t z (.inRegion I (i::r)::k)) cs;refine⟨aG,aM,_,w',?_,d.put C g2 g3 g4,fun _=>g2.fI⟩;rw[<-pq v];exact(hG (K8 v H G q)).trans g1
theorem Yg(u:mW P an){o:Oper}{K:aY->Prop}{s:St}(h:kq P an o s K):
 ∃e,K e/\(∀p∈e.aA,s.heap[p.1]?=some p.2)/\(∀p∈e.aO,p.1<s.heap.length/\p.2≠.hole)/\Act P n o s e:=by
 have G:=VY h;have y:gd P an o (ev s.env) s.heap K->∃e,K e/\(∀p∈e.aA,s.heap[p.1]?=some p.2)/\(∀p∈e.aO,p.1<s.heap.length/\p.2≠.hole)/\Act P n o s e:=by
  intro h;obtain⟨e,a,hs,aA,aO⟩:=u o _ _ _ (fun v=>rfl) h;refine⟨e,a,aA,aO,?_⟩;intro fr k cs M i r L ag aa β s' t w H I E d D F ba;obtain⟨nx,cv,w',aM,aG,z,A,m,B,C⟩:=hs s'.heap w aa ag β (gq t) d.heap (fun x hx=>by rw[<-D x hx];exact pP d x) F ba;exact⟨aG,aM,_,w',.one (uL H I G z A),d.put E m B C,fun _=>m.fI⟩
 unfold kq at h
 split at h
 ·rename_i f args J c
  split at h
  ·rename_i g l j hf;exact MU c (.inr ⟨l,j,hf,rfl,rfl⟩) h
  ·rename_i g l j hf;exact MU c (.inl hf) h
  ·rename_i b hf;obtain⟨e,hY,q,a⟩:=h;exact⟨e,a,q.1,q.2,Xv c hf hY⟩
  ·exact h.elim
 ·exact y h
end
section
variable{P:da}{an:dq->Bool}{n:Nat}
def looks(a:Array Oper)(o:Oper):List Tmp:=
 (o.op.operands.toList.filterMap fun x=>match x with
  | .tmp t=>some t
  |_=>none)++(match o.guard with
  |some (j,_)=>(match(a[j]?).bind (·.dst)with
   |some d=>[d]
   |none=>[])
  |none=>[])
def sH(c:Array Oper)(a b:Oper):Bool:=
 (match a.dst with
  |some d=>(looks c b).contains d||b.dst==some d
  |none=>false)||
 (match b.dst with
  |some d=>(looks c a).contains d
  |none=>false)
def fit(_:Nat)(a:Array Oper):Bool:=
 (h5 a.size).all fun j=>match a[j]? with
  |some o=>o.after.toList.all (fun e=>!g9 .any e||decide (e.on<j))&&
   (h5 j).all (fun i=>match a[i]? with
    |some u=>!sH a u o||reach a a.size i j
    |none=>true)
  |none=>true
structure FE(P:da)(n:Nat)(ops:Array Oper)(o:Oper)(s:St)(e:aY):Prop where
 aA:∀p∈e.aA,s.heap[p.1]?=some p.2
 aO:∀p∈e.aO,p.1<s.heap.length
 act:(∀(t:Array dl)(s':St)(ag aa:Nat->Prop)(β:Bd)(w:dx),cQ P n ag aa β s' t w->(∀x∈looks ops o,aP s'.env x=aP s.env x)->g8 o (yielded ops t)=true)/\Act P n o s e\/
  (∀(t:Array dl)(s':St)(ag aa:Nat->Prop)(β:Bd)(w:dx),cQ P n ag aa β s' t w->(∀x∈looks ops o,aP s'.env x=aP s.env x)->g8 o (yielded ops t)=false)/\e={v:=.p (.aD [])}
inductive Tr(P:da)(n:Nat)(ops:Array Oper):List Oper->Nat->St->List (St×aY)->St->Prop
 |nil (i:Nat) (s:St):Tr P n ops [] i s [] s
 |cons {o:Oper} {r:List Oper} {i:Nat} {s s':St} {e:aY} {es:List (St×aY)}:FE P n ops o s e->Tr P n ops r (i+1) (e.app o.dst s) es s'->Tr P n ops (o::r) i s ((s,e)::es) s'
def qS(i:Nat):List (St×aY)->List Touch->List Touch
 |[],acc=>acc
 |(s,e)::r,acc=>qS (i+1) r (gW i s.heap.length e acc)
theorem Du{a:Array Oper}{o:Oper}{j:Nat}{f:Bool}(c:o.guard=some (j,f)){e e':Env}(h:∀x∈looks a o,aP e' x=aP e x):guardOf a j e'=guardOf a j e:=by
 unfold guardOf;cases b:(a[j]?).bind (·.dst)with
 |none=>rfl
 |some d=>
  simp only;exact h d (by simp[looks,c,b])
theorem Ms(B:mW P an){a:Array Oper}(q:∀o∈a.toList,jQ n o=true):∀(l:List Oper)(i:Nat)(d:List Touch)(s:St){K:St->Prop},(∀o∈l,o∈a.toList)->gV P an a l i d K s->
 ∃c s',Tr P n a l i s c s'/\K s'/\jw a (qS i c d)=true
 |[],i,d,s,K,_,h=>⟨[],s,.nil i s,h.2,h.1⟩
 |o::l,i,d,s,K,F,h=>by
  have C:=fun d s(h:gV P an a l (i+1) d K s)=>Ms B q l (i+1) d s (fun o G=>F o (by simp[G])) h
  have skip:gV P an a l (i+1) d K ⟨put o.dst (.p (.aD [])) s.env,s.heap⟩->(∀(t:Array dl)(s':St)(ag aa:Nat->Prop)(β:Bd)(w:dx),cQ P n ag aa β s' t w->(∀x∈looks a o,aP s'.env x=aP s.env x)->g8 o (yielded a t)=false)->
   ∃c s',Tr P n a (o::l) i s c s'/\K s'/\jw a (qS i c d)=true:=by
   intro hk A;obtain⟨c,s',r,u,y⟩:=C _ _ hk;refine⟨(s,{v:=.p (.aD [])})::c,s',.cons ⟨s_,s_,.inr ⟨A,rfl⟩⟩ ?_,u,by simpa[qS,gW]using y⟩;simpa[aY.app,bt]using r
  have go:kq P an o s (fun e=>gV P an a l (i+1) (gW i s.heap.length e d) K (e.app o.dst s))->(∀(t:Array dl)(s':St)(ag aa:Nat->Prop)(β:Bd)(w:dx),cQ P n ag aa β s' t w->(∀x∈looks a o,aP s'.env x=aP s.env x)->g8 o (yielded a t)=true)->
   ∃c s',Tr P n a (o::l) i s c s'/\K s'/\jw a (qS i c d)=true:=by
   intro hk A;obtain⟨e,D,aA,aO,E⟩:=Yg (n:=n) B hk;obtain⟨c,s',r,u,y⟩:=C _ _ D;exact⟨(s,e)::c,s',.cons ⟨aA,fun p H=>(aO p H).1,.inl ⟨A,E⟩⟩ r,u,by simpa[qS]using y⟩
  simp only[gV]at h
  split at h
  ·rename_i f;exact go h (fun _ _ _ _ _ _ _ _=>by simp[g8,f])
  ·rename_i j I f
   split at h
   ·rename_i b m
    split at h
    ·rename_i z;refine go h (fun t s' ag aa β w k g=>?_);obtain⟨g1,g2⟩:=Ae k q j;rw[Du f g]at g1;simp[g8,f,g1 _ m,z]
    ·rename_i z;refine skip h (fun t s' ag aa β w k g=>?_);obtain⟨g1,g2⟩:=Ae k q j;rw[Du f g]at g1;simp[g8,f,g1 _ m,z]
   ·rename_i m;refine skip h (fun t s' ag aa β w k g=>?_);obtain⟨g1,g2⟩:=Ae k q j;rw[Du f g]at g2;simp[g8,f,g2 m]
   ·exact h.elim
def ym(a:Array Oper)(D:Nat->Prop):Prop:=∀j o,a[j]?=some o->D j->∀e∈o.after,g9 .any e=true->D e.on
theorem DF{c:Array Oper}{D:Nat->Prop}(hc:ym c D):∀(f i j:Nat),reach c f i j=true->(∀o,c[j]?=some o->∀e∈o.after,g9 .any e=true->D e.on)->D i
 |0,_,_,h,_=>by simp[reach]at h
 |f+1,i,j,h,d=>by
  simp only[reach]at h
  split at h
  case h_2=>simp at h
  rename_i o g;simp only[c9,ih,cx,beq_iff_eq,decide_eq_true_eq]at h;rcases h with⟨e,b,a,rfl⟩|⟨e,b,⟨a,_⟩,k⟩
  ·exact d o g e (by simpa using b) a
  ·have m:=d o g e (by simpa using b) a;exact DF hc f i e.on k (fun o' p e' n l=>hc _ o' p m e' n l)
end
section
variable{P:da}{an:dq->Bool}{n:Nat}
theorem uT(a:Nat)(l:List Obj):(newAt a l).map (·.1)=pN a l:=by
 induction l generalizing a with
 |nil=>rfl
 |cons o l b=>simp[newAt,pN,b]
theorem Kq{a b:Nat}{l:List Obj}:b∈pN a l↔a<=b/\b<a+l.length:=by
 induction l generalizing a with
 |nil=>simp[pN]
 |cons o l c=>simp only[pN,hU,c,List.length_cons];omega
theorem Ap{l:List (Nat×Obj)}{b:Nat}(h:b∉l.map (·.1)):∀H:ah,(bt H l)[b]?=H[b]?:=by
 induction l with
 |nil=>intro H;rfl
 |cons p l a=>
  obtain⟨c,o⟩:=p;intro H;simp only[hW,hU,not_or]at h;simp only[bt];rw[a h.2,h0 (mj h.1)]
theorem W4{l:List (Nat×Obj)}{b:Nat}(h:b∈l.map (·.1)):∀H H':ah,H.length=H'.length->(bt H l)[b]?=(bt H' l)[b]?:=by
 induction l with
 |nil=>simp at h
 |cons p l f=>
  obtain⟨c,o⟩:=p;intro H H' d;simp only[bt]
  by_cases a:b∈l.map (·.1)
  ·exact f a _ _ (by simp[d])
  ·rw[Ap a,Ap a];simp only[hW,hU]at h;have:b=c:=h.resolve_right a;subst this
   by_cases e:b<H.length
   ·rw[hS e,hS o_]
   ·rw[iy (by simp;omega),iy (by simp;omega)]
def di(es:List (St×aY))(s':St)(k:Nat):St:=match es[k]? with
 |some (s,_)=>s
 |none=>s'
def gu(es:List (St×aY))(k:Nat):aY:=match es[k]? with
 |some (_,e)=>e
 |none=>{v:=.p .undef}
theorem Tr.at{a:Array Oper}:∀{l:List Oper}{i:Nat}{s s':St}{es:List (St×aY)},Tr P n a l i s es s'->es.length=l.length/\di es s' 0=s/\
 ∀k o,l[k]?=some o->FE P n a o (di es s' k) (gu es k)/\di es s' (k+1)=(gu es k).app o.dst (di es s' k)
 |_,_,_,_,_,.nil i s=>⟨rfl,rfl,fun k o h=>by simp at h⟩
 |_,_,_,_,_,.cons (o:=o) (r:=r) (i:=i) (s:=s) (s':=s') (e:=e) (es:=es) hi d=>by
  obtain⟨h1,b,c⟩:=d.at;refine⟨by simp[h1],rfl,fun k o' hk=>?_⟩;cases k with
  |zero=>
   simp at hk;subst hk;refine⟨by simpa[di,gu]using hi,?_⟩;have:di ((s,e)::es) s' (0+1)=di es s' 0:=by simp[di]
   rw[this,b];simp[di,gu]
  |succ k=>
   have e1:∀m,di ((s,e)::es) s' (m+1)=di es s' m:=fun m=>by simp[di]
   have e2:gu ((s,e)::es) (k+1)=gu es k:=by simp[gu]
   rw[e1,e1,e2];exact c k o' (by simpa using hk)
theorem V3(u:Touch)(i:Nat):kj u ⟨i,[],[]⟩=false:=by
 simp[kj]
theorem VP(i b:Nat)(e:aY)(a:List Touch):(gW i b e a=a/\iC i b e=⟨i,[],[]⟩)\/gW i b e a=iC i b e::a:=by
 unfold gW
 split
 ·rename_i c d f;exact .inl ⟨rfl,by simp[iC,c,d,f,pN]⟩
 ·exact .inr rfl
theorem K7{c:Array Oper}:∀(g:List (St×aY))(i:Nat)(d:List Touch),jw c (qS i g d)=true->jw c d=true/\
 (∀u∈d,∀b s e,g[b]?=some (s,e)->kj u (iC (i+b) s.heap.length e)=true->reach c c.size u.i (i+b)=true)/\
 (∀a b s e f e2,a<b->g[a]?=some (s,e)->g[b]?=some (f,e2)->kj (iC (i+a) s.heap.length e) (iC (i+b) f.heap.length e2)=true->reach c c.size (i+a) (i+b)=true)
 |[],i,d,h=>⟨h,s_,s_⟩
 |(s,e)::g,i,d,h=>by
  simp only[qS]at h;obtain⟨j,m,r⟩:=K7 g (i+1) _ h
  have key:jw c d=true/\(∀u∈d,kj u (iC i s.heap.length e)=true->reach c c.size u.i i=true)/\(∀u∈d,∀b s e,g[b]?=some (s,e)->kj u (iC (i+1+b) s.heap.length e)=true->reach c c.size u.i (i+1+b)=true)/\
   (∀b f e2,g[b]?=some (f,e2)->kj (iC i s.heap.length e) (iC (i+1+b) f.heap.length e2)=true->reach c c.size i (i+1+b)=true):=by
   rcases VP i s.heap.length e d with⟨o,q⟩|o
   ·rw[o]at j m;refine⟨j,fun u _ hc=>?_,m,fun b f e2 _ hc=>?_⟩
    ·rw[q,V3]at hc;cases hc
    ·rw[q]at hc;simp[kj]at hc
   ·rw[o]at j m;simp only[jw,cx,h7]at j;refine⟨j.2,fun u l hc=>?_,fun u l=>m u (by simp[l]),m _ s_⟩;have:=j.1 u l;rw[hc]at this;exact(by simpa using this:reach c c.size u.i (iC i s.heap.length e).i=true)
  obtain⟨k1,k2,k3,k4⟩:=key;refine⟨k1,?_,?_⟩
  ·intro u l b p e1 k hc;cases b with
   |zero=>simp at k;obtain⟨rfl,rfl⟩:=k;exact k2 u l hc
   |succ b=>
    have:=k3 u l b p e1 (by simpa using k);rw[show i+(b+1)=i+1+b by omega]at hc⊢;exact this hc
  ·intro a b p e1 f e2 t n k hc;cases b with
   |zero=>omega
   |succ b=>
    rw[show i+(b+1)=i+1+b by omega]at hc⊢;cases a with
    |zero=>
     simp at n;obtain⟨rfl,rfl⟩:=n;exact k4 b f e2 (by simpa using k) hc
    |succ a=>
     rw[show i+(a+1)=i+1+a by omega]at hc⊢;exact r a b p e1 f e2 o_ (by simpa using n) (by simpa using k) hc
end
section
variable{P:da}{an:dq->Bool}{n:Nat}
def hx(N:Nat)(s:St):ah:=s.heap++hV (N-s.heap.length) .hole
def wA(a:Nat)(e:aY):List Nat:=(e.aO++newAt a e.ba).map (·.1)
theorem aqE{N:Nat}{s:St}{e:aY}{o:Oper}(aO:∀p∈e.aO,p.1<s.heap.length)(d:(e.app o.dst s).heap.length<=N):hx N (e.app o.dst s)=bt (hx N s) (e.aO++newAt s.heap.length e.ba):=by
 have b:(e.app o.dst s).heap=bt s.heap e.aO++e.ba:=rfl;have f:(e.app o.dst s).heap.length=s.heap.length+e.ba.length:=by rw[b];simp[qG]
 unfold hx;rw[b];have c:N-s.heap.length=e.ba.length+(N-(s.heap.length+e.ba.length)):=o_
 rw[c,<-List.replicate_append_replicate,<-ip,zT _ _ _ (by
  intro p a;rcases j1.1 a with a|a
  ·have:=aO p a;simp;omega
  ·have:p.1∈(newAt s.heap.length e.ba).map (·.1):=i6 a
   rw[uT,Kq]at this;simp;omega)]
 rw[xd,zT _ _ _ aO];have:=DE (bt s.heap e.aO) e.ba;rw[qG]at this;rw[this];congr 2;simp[qG]
section sched
variable{ops:Array Oper}{es:List (St×aY)}{s0 s':St}
structure jR(P:da)(n:Nat)(ops:Array Oper)(es:List (St×aY))(s':St):Prop where
 len:es.length=ops.size
 at_:∀k o,ops[k]?=some o->FE P n ops o (di es s' k) (gu es k)/\di es s' (k+1)=(gu es k).app o.dst (di es s' k)
 dst:∀o∈ops.toList,jQ n o=true
 lower:∀j o,ops[j]?=some o->∀e∈o.after,g9 .any e=true->e.on<j
 tmps:∀i j u o,i<j->ops[i]?=some u->ops[j]?=some o->sH ops u o=true->reach ops ops.size i j=true
 heap:∀i j,i<j->j<ops.size->kj (iC i (di es s' i).heap.length (gu es i)) (iC j (di es s' j).heap.length (gu es j))=true->reach ops ops.size i j=true
def wr(a:List (St×aY))(s':St)(i:Nat):List Nat:=wA (di a s' i).heap.length (gu a i)
structure At(ops:Array Oper)(es:List (St×aY))(s':St)(D:Nat->Prop)(s:St):Prop where
 tmp:∀x,∃k,k<=ops.size/\aP s.env x=aP (di es s' k).env x/\∀i o,ops[i]?=some o->o.dst=some x->(D i↔i<k)
 len:s.heap.length=s'.heap.length
 heap:∀b,∃k,k<=ops.size/\s.heap[b]?=(hx s'.heap.length (di es s' k))[b]?/\∀i,i<ops.size->b∈wr es s' i->(D i↔i<k)
variable(h:jR P n ops es s')
include h
theorem jR.mono:∀{k m:Nat},k<=m->m<=ops.size->(di es s' k).heap.length<=(di es s' m).heap.length:=by
 intro k m e f
 induction m with
 |zero=>
  obtain rfl:k=0:=o_
  exact ll _
 |succ m c=>
  by_cases hk:k=m+1
  ·subst hk;exact ll _
  ·have d:=c o_ o_;have b:ops[m]?=some ops[m]:=b1 o_;obtain⟨_,a⟩:=h.at_ m _ b;rw[a];simp only[aY.app,hT,qG];omega
theorem jR.last:di es s' ops.size=s':=by
 have:es[ops.size]?=none:=iy (by rw[h.len];exact ll _);simp[di,this]
theorem jR.yN{k:Nat}(hk:k<=ops.size):(di es s' k).heap.length<=s'.heap.length:=by
 have:=h.mono hk (ll _)
 rwa [h.last]at this
theorem jR.iH{k:Nat}(hk:k<ops.size):hx s'.heap.length (di es s' (k+1))=bt (hx s'.heap.length (di es s' k)) ((gu es k).aO++newAt (di es s' k).heap.length (gu es k).ba):=by
 have c:ops[k]?=some ops[k]:=b1 hk;obtain⟨h1,b⟩:=h.at_ k _ c;have a:=h.yN (k:=k+1) hk;rw[b]at a⊢;exact aqE h1.aO a
theorem aqD{k:Nat}(hk:k<=ops.size):(hx s'.heap.length (di es s' k)).length=s'.heap.length:=by
 have:=h.yN hk;simp[hx];omega
theorem jR.Mt{x:Nat}:∀{k m:Nat},k<=m->m<=ops.size->(∀i o,k<=i->i<m->ops[i]?=some o->o.dst≠some x)->aP (di es s' m).env x=aP (di es s' k).env x:=by
 intro k m j
 induction m with
 |zero=>
  intro _ _;obtain rfl:k=0:=o_
  rfl
 |succ m g=>
  intro l d
  by_cases hk:k=m+1
  ·subst hk;rfl
  ·have e:=g o_ o_ (fun i o a b=>d i o a o_);have c:ops[m]?=some ops[m]:=b1 o_;obtain⟨_,f⟩:=h.at_ m _ c;rw[f];simp only[aY.app,xu];rw[if_neg (d m _ o_ o_ c)];exact e
theorem jR.L7{b:Nat}:∀{k m:Nat},k<=m->m<=ops.size->(∀i,k<=i->i<m->b∉wr es s' i)->(hx s'.heap.length (di es s' m))[b]?=(hx s'.heap.length (di es s' k))[b]?:=by
 intro k m f
 induction m with
 |zero=>
  intro _ _;obtain rfl:k=0:=o_
  rfl
 |succ m e=>
  intro g c
  by_cases hk:k=m+1
  ·subst hk;rfl
  ·have d:=e o_ o_ (fun i a b=>c i a o_);rw[h.iH o_,Ap (c m o_ o_)];exact d
theorem jR.NO{x:Nat}{k m:Nat}(hk:k<=ops.size)(g:m<=ops.size)(f:∀i o,ops[i]?=some o->o.dst=some x->(i<k↔i<m)):aP (di es s' m).env x=aP (di es s' k).env x:=by
 rcases md k m with d|d
 ·exact h.Mt d g fun i o a b e c=>by have:=f i o e c;omega
 ·exact(h.Mt d hk fun i o a b e c=>by have:=f i o e c;omega).symm
theorem jR.Nu{b:Nat}{k m:Nat}(hk:k<=ops.size)(g:m<=ops.size)(f:∀i,i<ops.size->b∈wr es s' i->(i<k↔i<m)):(hx s'.heap.length (di es s' m))[b]?=(hx s'.heap.length (di es s' k))[b]?:=by
 rcases md k m with e|e
 ·exact h.L7 e g fun i a c d=>by have:=f i o_ d;omega
 ·exact(h.L7 e hk fun i a c d=>by have:=f i o_ d;omega).symm
variable{D:Nat->Prop}(hc:ym ops D)
include hc
theorem jR.order{i:Nat}{o:Oper}(k:ops[i]?=some o)(h:¬D i)(l:∀e∈o.after,g9 .any e=true->D e.on):
 (∀j,j<i->reach ops ops.size j i=true->D j)/\(∀j,j<ops.size->i<j->reach ops ops.size i j=true->¬D j):=by
 constructor
 ·intro j g b;exact DF hc _ _ _ b (fun o' a=>by rw[k]at a;cases a;exact l)
 ·intro j m g b d;exact h (DF hc _ _ _ b (fun o' a e f c=>hc j o' a d e f c))
theorem jR.reads{i:Nat}{o:Oper}(l:ops[i]?=some o)(q:¬D i)(y:∀e∈o.after,g9 .any e=true->D e.on){s:St}(t:At ops es s' D s):
 (∀x∈looks ops o,aP s.env x=aP (di es s' i).env x)/\(∀b,b∈(gu es i).aA.map (·.1)\/b∈wr es s' i->s.heap[b]?=(hx s'.heap.length (di es s' i))[b]?):=by
 obtain⟨v,w⟩:=h.order hc l q y;have hi:i<ops.size:=(b0.1 l).1;constructor
 ·intro x hx;obtain⟨k,k1,k2,k3⟩:=t.tmp x;rw[k2];refine h.NO o_ k1 fun j u m p=>?_;have g:j<ops.size:=(b0.1 m).1;rw[<-k3 j u m p];constructor
  ·intro a;refine v j a (h.tmps j i u o a m l ?_);simp[sH,p,hx]
  ·intro f;rcases lt j i with a|rfl|a
   ·exact a
   ·exact(q f).elim
   ·exact(w j g a (h.tmps i j o u a l m (by simp[sH,p,hx])) f).elim
 ·intro b c;obtain⟨k,k1,k2,k3⟩:=t.heap b;rw[k2];refine h.Nu o_ k1 fun j g n=>?_;rw[<-k3 j g n];have r:b∈(iC j (di es s' j).heap.length (gu es j)).wr:=by
   unfold wr wA at n;rw[h8,uT]at n;exact n
  have d:b∈(iC i (di es s' i).heap.length (gu es i)).rd\/b∈(iC i (di es s' i).heap.length (gu es i)).wr:=by
   rcases c with c|c
   ·exact .inl c
   ·unfold wr wA at c;rw[h8,uT]at c;exact .inr c
  constructor
  ·intro a;refine v j a (h.heap j i a hi ?_);simp only[kj,c9,ih,h9];exact .inl ⟨b,r,d⟩
  ·intro f;rcases lt j i with a|rfl|a
   ·exact a
   ·exact(q f).elim
   ·refine(w j g a (h.heap i j a g ?_) f).elim;simp only[kj,c9,ih,h9];rcases d with d|d
    ·exact .inr ⟨b,d,r⟩
    ·exact .inl ⟨b,d,.inr r⟩
theorem jR.next{i:Nat}{o:Oper}(l:ops[i]?=some o)(z:¬D i)(A:∀e∈o.after,g9 .any e=true->D e.on){s:St}(p:At ops es s' D s):
 At ops es s' (fun j=>D j\/j=i) ⟨put o.dst (gu es i).v s.env,bt s.heap ((gu es i).aO++newAt (di es s' i).heap.length (gu es i).ba)⟩:=by
 obtain⟨w,y⟩:=h.order hc l z A;have hi:i<ops.size:=(b0.1 l).1;obtain⟨B,iH⟩:=h.at_ i o l;refine⟨fun x=>?_,by simp only[qG];exact p.len,fun b=>?_⟩
 ·by_cases hx:o.dst=some x
  ·refine⟨i+1,hi,?_,fun j u d n=>?_⟩
   ·rw[iH];simp[aY.app,xu,hx]
   ·have g:j<ops.size:=(b0.1 d).1;constructor
    ·rintro(c|rfl)
     ·rcases lt j i with a|rfl|a
      ·omega
      ·omega
      ·exact(y j g a (h.tmps i j o u a l d (by simp[sH,n,hx])) c).elim
     ·omega
    ·intro a
     by_cases q:j=i
     ·exact .inr q
     ·exact .inl (w j o_ (h.tmps j i u o o_ d l (by simp[sH,n,hx])))
  ·obtain⟨k,k1,k2,k3⟩:=p.tmp x;refine⟨k,k1,?_,fun j u d n=>?_⟩
   ·simp only[xu];rw[if_neg hx];exact k2
   ·rw[<-k3 j u d n];constructor
    ·rintro(c|rfl)
     ·exact c
     ·rw[l]at d;cases d;exact(hx n).elim
    ·exact .inl
 ·by_cases f:b∈wr es s' i
  ·refine⟨i+1,hi,?_,fun j g m=>?_⟩
   ·rw[h.iH hi];exact W4 f _ _ (by rw[aqD h o_];exact p.len)
   ·have t:b∈(iC j (di es s' j).heap.length (gu es j)).wr:=by
     unfold wr wA at m;rw[h8,uT]at m;exact m
    have r:b∈(iC i (di es s' i).heap.length (gu es i)).wr:=by
     unfold wr wA at f;rw[h8,uT]at f;exact f
    constructor
    ·rintro(c|rfl)
     ·rcases lt j i with a|rfl|a
      ·omega
      ·omega
      ·refine(y j g a (h.heap i j a g ?_) c).elim;simp only[kj,c9,ih,h9];exact .inl ⟨b,r,.inr t⟩
     ·omega
    ·intro a
     by_cases q:j=i
     ·exact .inr q
     ·refine .inl (w j o_ (h.heap j i o_ hi ?_));simp only[kj,c9,ih,h9];exact .inl ⟨b,t,.inr r⟩
  ·obtain⟨k,k1,k2,k3⟩:=p.heap b;refine⟨k,k1,?_,fun j g m=>?_⟩
   ·simp only;rw[Ap f];exact k2
   ·rw[<-k3 j g m];constructor
    ·rintro(c|rfl)
     ·exact c
     ·exact(f m).elim
    ·exact .inl
end sched
end
section
variable{P:da}{an:dq->Bool}{n:Nat}
variable{ops:Array Oper}{es:List (St×aY)}{s':St}
theorem cQ.congr{ag aa:Nat->Prop}{β:Bd}{s u:St}{t:Array dl}{w:dx}(h:cQ P n ag aa β s t w)(b:∀x,aP u.env x=aP s.env x)(a:u.heap=s.heap):cQ P n ag aa β u t w:=by
 refine⟨by rw[a];exact h.heap,fun x=>?_,fun x=>?_,h.size⟩
 ·rw[b,a];exact h.env x
 ·rw[b,a];exact h.iq x
theorem cQ.rq{ag aa:Nat->Prop}{β:Bd}{s:St}{t:Array dl}{w:dx}(m:Nat)(h:cQ P n ag aa β s t w):cQ P n ag aa β ⟨s.env,s.heap++hV m .hole⟩ t w:=
 ⟨h.heap.rq m,fun x=>aC.mono (fun _ x=>x) (fun _ _=>rfl) (sj β s.heap m) _ _ (h.iq x) (h.env x),fun x=>aH.mono (pI _ _) _ (h.iq x),h.size⟩
theorem YI{o:Oper}{e e':Env}(h:∀x∈looks ops o,aP e' x=aP e x):∀x∈o.op.operands,ev e' x=ev e x:=by
 intro x hx;cases x with
 |tmp t=>
  simp only[ev];refine h t ?_;simp only[looks,j1,List.mem_filterMap];exact .inl ⟨.tmp t,by simpa using hx,rfl⟩
 |_=>rfl
theorem jR.run(h:jR P n ops es s'){D:Nat->Prop}(hc:ym ops D){i:Nat}{o:Oper}(a:ops[i]?=some o)(v:¬D i)(y:∀e∈o.after,g9 .any e=true->D e.on){s:St}(l:At ops es s' D s)
 {fr:ec}{k:List Item}{cs:List ec}{r:List Nat}{ds:List ee}{ag aa:Nat->Prop}{β:Bd}{t:Array dl}{w:dx}(b:cQ P n ag aa β s t w):
 ∃u aG aM d w',eo P (lone (bD fr t ds (.inRegion ops (i::r)::k)) cs w) (lone (bD fr d ds (.inRegion ops r::k)) cs w')/\cQ P n ag aG aM u d w'/\(∀N,dU N ag aa w β s.heap ag aG w' aM u.heap)/\At ops es s' (fun j=>D j\/j=i) u:=by
 obtain⟨r1,z⟩:=h.reads hc a v y l;have hi:i<ops.size:=(b0.1 a).1;obtain⟨q,_⟩:=h.at_ i o a;have c:=h.next hc a v y l;have m:jQ n o=true:=h.dst o (by rw[Array.mem_toList_iff];exact Array.mem_of_getElem? a);have F:=h.yN (k:=i) o_;rcases q.act with⟨f,A⟩|⟨f,B⟩
 ·obtain⟨aG,aM,d,w',a1,a2,a3⟩:=A fr k cs ops i r ds ag aa β s t w a (f t s ag aa β w b r1) m b (YI r1) (by
   intro p x;rw[z p.1 (.inl (i6 x))];have:=q.aA p x;unfold hx;rw[j3 (hQ.1 this).1];exact this) (by
   intro j E;have C:(di es s' i).heap.length+j∈wr es s' i:=by
    unfold wr wA;rw[h8,uT];exact j6 _ (Kq.2 ⟨o_,o_⟩)
   rw[z _ (.inr C)];have g:=h.yN (k:=i+1) o_;rw[(h.at_ i o a).2]at g;simp only[aY.app,hT,qG]at g;unfold hx;rw[mn,if_neg o_,if_pos o_])
  exact⟨_,aG,aM,d,w',a1,a2,a3,c⟩
 ·rw[B]at c;simp only[newAt,hX,bt]at c;exact⟨_,aa,β,_,w,.one (LF a (f t s ag aa β w b r1)),b.put m (cd.refl b.heap) (by simp[aC,aF,bO,undef]) (by simp[aH]),fun _=>dU.refl _ _ _ _ _ _,c⟩
def isDone(a:Array Bool)(i:Nat):Prop:=a.getD i false=true
theorem KS{p:Nat->Bool}{i:Nat}:∀{l:List Nat},l.Nodup->i∈l->p i=true->l.countP p=l.countP (fun x=>p x&&x !=i)+1
 |[],_,h,_=>by simp at h
 |a::l,hn,h,c=>by
  rw[j0]at hn
  by_cases b:a=i
  ·subst b;have e:l.countP (fun x=>p x&&x !=a)=l.countP p:=by
    refine ko fun x hx=>?_;have:x≠a:=fun e=>hn.1 (e▸hx);simp[this]
   simp[c,e]
  ·have d:i∈l:=by
    rcases hU.1 h with h|h
    ·exact(b h.symm).elim
    ·exact h
   have f:=KS hn.2 d c;rw[la,la,f];have:(a !=i)=true:=by simpa using b
   simp only[this,Bool.and_true];omega
def left(b:Array Oper)(a:Array Bool):Nat:=(h5 b.size).countP fun i=>!a.getD i true
theorem jR.goes(h:jR P n ops es s'){fr:ec}{k:List Item}{cs:List ec}{ds:List ee}{ag:Nat->Prop}:∀(c b:Nat)(a:Array Bool)(s:St)(aa:Nat->Prop)(β:Bd)(t:Array dl)(w:dx),a.size=ops.size->left ops a<=c->ym ops (isDone a)->
 At ops es s' (isDone a) s->cQ P n ag aa β s t w->
 ∃u D aG aM R w',eo P (lone (bD fr t ds (.inRegion ops (ht .any ops c b a [])::k)) cs w) (lone (bD fr R ds (.inRegion ops []::k)) cs w')/\cQ P n ag aG aM u R w'/\(∀N,dU N ag aa w β s.heap ag aG w' aM u.heap)/\At ops es s' D u/\∀j,j<ops.size->D j:=by
 have L:∀(a:Array Bool),a.size=ops.size->gU .any ops a=[]->∀j,j<ops.size->isDone a j:=by
  intro a q f j
  induction j using l0 with
  |_ j K=>
   intro d
   by_cases A:isDone a j
   ·exact A
   ·exfalso;have G:j<a.size:=by omega
    have:j∈gU .any ops a:=by
     rw[ej];refine⟨?_,ops[j],b1 d,fun e B z=>?_⟩
     ·unfold isDone at A;simp only[ca,b1 G,mp]at A⊢;simpa using A
     ·have H:=h.lower j _ (b1 d) e B z;exact K e.on H o_
    rw[f]at this;simp at this
 intro c
 induction c with
 |zero=>
  intro b a s aa β t w q O hc y C;have f:gU .any ops a=[]:=by
   rw[List.eq_nil_iff_forall_not_mem];intro j d;rw[ej]at d;obtain⟨g,o,m,_⟩:=d;have G:j<ops.size:=(b0.1 m).1;have:0<left ops a:=by
    unfold left;rw[List.countP_pos_iff];exact⟨j,by simpa using G,by rw[g];rfl⟩
   omega
  exact⟨s,isDone a,aa,β,t,w,by simp only[ht,List.reverse_nil];exact hJ _ _,C,fun _=>dU.refl _ _ _ _ _ _,y,L a q f⟩
 |succ c K=>
  intro b a s aa β t w q O hc y C;have ab:ht .any ops (c+1) b a []=(match(gU .any ops a)[b% (gU .any ops a).length]? with
   |some i=>ht .any ops c (b/(gU .any ops a).length) (a.setIfInBounds i true) [i]
   |none=>[].reverse):=rfl
  rw[ab];cases hi:(gU .any ops a)[b% (gU .any ops a).length]? with
  |none=>
   have f:gU .any ops a=[]:=by
    cases f:gU .any ops a with
    |nil=>rfl
    |cons x xs=>
     rw[f]at hi;have H:b% (x::xs).length<(x::xs).length:=Nat.mod_lt _ s_;rw[hR H]at hi;cases hi
   exact⟨s,isDone a,aa,β,t,w,hJ _ _,C,fun _=>dU.refl _ _ _ _ _ _,y,L a q f⟩
  |some i=>
   simp only;rw[linearise_go_acc,List.reverse_singleton,List.singleton_append];have ae:=i4 hi;obtain⟨g,o,m,Q⟩:=ej.1 ae;have ac:i<ops.size:=(b0.1 m).1;have E:i<a.size:=o_
   have af:¬isDone a i:=by
    unfold isDone;simp only[ca,b1 E,mp]at g⊢;simp[g]
   obtain⟨u,S,ah,t1,w1,a1,a2,a3,a4⟩:=h.run (fr:=fr) (k:=k) (cs:=cs) (ds:=ds) (r:=ht .any ops c (b/(gU .any ops a).length) (a.setIfInBounds i true) []) hc m af Q y C;have M:(fun j=>isDone a j\/j=i)=isDone (a.setIfInBounds i true):=by
    funext j
    unfold isDone
    by_cases F:j=i
    ·subst F;simp[E]
    ·have:(a.setIfInBounds i true).getD j false=a.getD j false:=en false (mj F);rw[this];simp[F]
   rw[M]at a4;have Z:ym ops (isDone (a.setIfInBounds i true)):=by
    rw[<-M];intro j o' I d e B z;rcases d with d|rfl
    ·exact .inl (hc j o' I d e B z)
    ·rw[m]at I;cases I;exact .inl (Q e B z)
   have ad:left ops (a.setIfInBounds i true)<=c:=by
    have aj:=KS (p:=fun j=>!a.getD j true) (i:=i) (l:=h5 ops.size) kr (by simpa using ac) (by show(!a.getD i true)=true;rw[g];rfl);have:left ops (a.setIfInBounds i true)=(h5 ops.size).countP (fun x=>!a.getD x true&&x !=i):=by
     unfold left;refine ko fun x hx=>?_
     by_cases J:x=i
     ·subst J;simp[E]
     ·have:(a.setIfInBounds i true).getD x true=a.getD x true:=en true (mj J);rw[this];simp[J]
    unfold left at O;omega
   obtain⟨v,D,T,ai,t2,w2,U,V,W,X,Y⟩:=K (b/(gU .any ops a).length) (a.setIfInBounds i true) u S ah t1 w1 (by simpa using q) ad Z a4 a2;exact⟨v,D,T,ai,t2,w2,a1.trans U,V,fun N=>(a3 N).trans (W N),X,Y⟩
theorem YG(h:fit n ops=true):(∀j o,ops[j]?=some o->∀e∈o.after,g9 .any e=true->e.on<j)/\
 (∀i j u o,i<j->ops[i]?=some u->ops[j]?=some o->sH ops u o=true->reach ops ops.size i j=true):=by
 unfold fit at h;rw[h7]at h;constructor
 ·intro j o a e f c;have b:j<ops.size:=(b0.1 a).1;have:=h j (by simpa using b);rw[a]at this;simp only[cx,h7]at this;have:=this.1 e (by simpa using f);simpa[c]using this
 ·intro i j u o g k a d;have b:j<ops.size:=(b0.1 a).1;have:=h j (by simpa using b);rw[a]at this;simp only[cx,h7]at this;have:=this.2 i (by simpa using g);rw[k]at this;simpa[d]using this
theorem Ac(C:mW P an)(Y:P.follows .mixedOrders=true):uW P an fit:=by
 intro n N a fr k cs E f K s ag aa β t w S B h Z;obtain⟨es,s',H,I,J⟩:=Ms C B a.toList 0 [] s (fun _ h=>h) h;obtain⟨t1,t2,t3⟩:=H.at;obtain⟨_,_,M⟩:=K7 es 0 [] J;obtain⟨f1,f2⟩:=YG (n:=n) S;have W:es.length=a.size:=by simpa using t1
 have hs:jR P n a es s':=by
  refine⟨W,fun k o c=>t3 k o (by simpa using c),B,f1,f2,fun i j T af v=>?_⟩;have hi:i<es.length:=o_
  have A:j<es.length:=o_
  have F:es[i]?=some (es[i].1,es[i].2):=by simp[hR hi]
  have G:es[j]?=some (es[j].1,es[j].2):=by simp[hR A]
  have:=M i j es[i].1 es[i].2 es[j].1 es[j].2 T F G;simp only[lu]at this;refine this ?_;have g:di es s' i=es[i].1/\gu es i=es[i].2:=by simp[di,gu,hR hi]
  have q:di es s' j=es[j].1/\gu es j=es[j].2:=by simp[di,gu,hR A]
  rw[g.1,g.2,q.1,q.2]at v;exact v
 have U:=hs.yN (k:=0) (lw _);rw[t2]at U;obtain⟨m,X⟩:∃m,m=s'.heap.length-s.heap.length:=⟨_,rfl⟩
 have ab:=Z.rq m;have O:∀N,dU N ag aa w β s.heap ag aa w β (s.heap++hV m .hole):=fun N=>⟨fun _ x=>x,fun _ x=>x,fun _ x=>.inl x,Ext.refl _ _ _,(sj _ _ _).n,fun x _=>pI _ _ x,fun b _⟨L,r⟩=>⟨L,by rw[mn,if_pos (hQ.1 r).1];exact r⟩⟩
 have ac:hd (P.follows .mixedOrders) a f=ht .any a a.size f (b3 a.size false) []:=by
  simp[hd,Y,Region.linearise]
 have e:∀i,¬isDone (b3 a.size false) i:=by
  intro i hi;unfold isDone at hi
  by_cases z:i<a.size
  ·simp[z]at hi
  ·simp[z]at hi
 have Q:At a es s' (isDone (b3 a.size false)) ⟨s.env,s.heap++hV m .hole⟩:=by
  refine⟨fun x=>⟨0,lw _,by rw[t2],fun i o _ _=>⟨fun h=>(e i h).elim,fun h=>by omega⟩⟩,by simp;omega,fun b=>⟨0,lw _,by rw[t2];unfold hx;rw[<-X],fun i _ _=>⟨fun h=>(e i h).elim,fun h=>by omega⟩⟩⟩
 have V:left a (b3 a.size false)<=a.size:=by
  unfold left;have:=List.countP_le_length (p:=fun i=>!(b3 a.size false).getD i true) (l:=h5 a.size);simpa using this
 obtain⟨u,D,aG,aM,ae,w',a1,a2,a3,a4,a5⟩:=hs.goes (fr:=fr) (k:=k) (cs:=cs) (ds:=E) a.size f (b3 a.size false) _ aa β t w s_ V (fun j o c d=>(e j d).elim) Q ab;rw[ac];have R:∀x,aP s'.env x=aP u.env x:=by
  intro x;obtain⟨k,k1,k2,k3⟩:=a4.tmp x;rw[k2];have:=hs.NO (x:=x) k1 (ll a.size) (fun i o c d=>by
   have hi:i<a.size:=(b0.1 c).1;have:=(k3 i o c d).1 (a5 i hi);exact⟨fun _=>hi,fun _=>this⟩)
  rw[hs.last]at this;exact this
 have y:s'.heap=u.heap:=by
  apply List.ext_getElem?;intro b;obtain⟨k,k1,k2,k3⟩:=a4.heap b;rw[k2];have:=hs.Nu (b:=b) k1 (ll a.size) (fun i hi ad=>by
   have:=(k3 i hi ad).1 (a5 i hi);exact⟨fun _=>hi,fun _=>this⟩)
  rw[hs.last]at this;rw[<-this];simp[hx]
 exact⟨s',aG,aM,ae,w',I,a1,a2.congr R y,(O N).trans (y▸a3 N)⟩
end
section
variable{P:da}
structure aB(P:da)(f:dq)(fn:Func):Prop where
 func:P.funcs[f]?=some fn
 stat:(fn.body.isSome&&(fn.name != "runtime.NumGoroutine")&&codeOk fit fn.ntmps (fn.body.getD .skip))=true
theorem i_{P:da}{n:dq}{fn:Func}(h:P.funcs[n]?=some fn)(k:(fn.body.isSome&&(fn.name != "runtime.NumGoroutine")&&codeOk fit fn.ntmps (fn.body.getD .skip))=true:=by kernel_rfl):aB P n fn:=⟨h,k⟩
theorem aB.enters{f:dq}{fn:Func}(h:aB P f fn):Enters P f:=by
 intro args w;have hs:=h.stat;simp only[cx,bne_iff_ne]at hs;cases a:fn.body with
 |none=>rw[a]at hs;simp at hs
 |some c=>simp[callFunc,h.func,hs.1.2,a]
def Ends(P:da)(a:List ResultVar)(v:PV)(e:bE)(s:St):Prop:=
 (match e with
  | .exit _=>False
  |_=>True)/\∃vs,gS P s a=some vs/\fN s.heap 9 (oneOf vs)=some v
theorem Cg{f:dq}{fn:Func}(an:dq->Bool)(h:aB P f fn)(b:P.follows .mixedOrders=true){args:List PV}{v:PV}(hn:args.length<=fn.ntmps)
 (c:cr P an (fn.ntmps,0) (fn.body.getD .skip) (Ends P fn.results.toList v) ⟨jv 0 (args.map .p),[]⟩):aq P f args v:=by
 have hs:=h.stat;simp only[cx,bne_iff_ne]at hs;have a:fn.body=some (fn.body.getD .skip):=by
  have:=hs.1.1;cases d:fn.body<;>simp_all
 exact .inl (MN (qH an) (Ac (qH an) b) h.enters h.func a hs.2 hn c)
class aIY(P:da)(f:dq)(args:List PV)(pre:outParam Prop)(v:outParam PV):Prop where
 Cg:pre->aq P f args v
section calls
variable{f:dq}{H:ah}{pre:Prop}{v:PV}
end calls
def tA(e:Env):Env->Prop
 |[]=>True
 |(x,v)::r=>aP e x=v/\tA e r
def lN:ah->ah->Prop
 |_,[]=>True
 |[],.hole::t=>lN [] t
 |_::h,.hole::t=>lN h t
 |o::h,o'::t=>o=o'/\lN h t
 |[],_::_=>False
theorem tA.get{e:Env}:∀{t:Env},tA e t->∀x,aP t x=aP e x\/aP t x=.p .undef
 |[],_,x=>.inr rfl
 |(y,v)::t,h,x=>by
  simp only[tA]at h;simp only[aP]
  split
  ·rename_i hx;subst hx;exact .inl h.1.symm
  ·exact tA.get h.2 x
theorem lN.get:∀{h t:ah},lN h t->∀(b:Nat)(o:Obj),t[b]?=some o->o=.hole\/h[b]?=some o
 |_,[],_,b,o,a=>by simp at a
 |[],o'::t,hk,b,o,a=>by
  cases o'<;>simp only[lN]at hk;cases b with
  |zero=>simp at a;exact .inl a.symm
  |succ b=>exact(lN.get hk b o (by simpa using a)).imp id (fun h=>by simp at h)
 |c::h,o'::t,hk,b,o,a=>by
  cases b with
  |zero=>
   simp at a;cases o'<;>simp only[lN]at hk
   case hole=>exact .inl a.symm
   all_goals exact .inr (by rw[<-a,<-hk.1];simp)
  |succ b=>
   have:lN h t:=by cases o'<;>simp only[lN]at hk<;>first|exact hk|exact hk.2
   exact(lN.get this b o (by simpa using a)).imp id (fun h=>by simpa using h)
def iU(H:ah):Env->Prop
 |[]=>True
 |(_,v)::r=>aH (aN H) v/\iU H r
def dG(H:ah):ah->Prop
 |[]=>True
 |o::r=>o.refs (aN H)/\dG H r
theorem iU.get{H:ah}:∀{e:Env},iU H e->∀x,aH (aN H) (aP e x)
 |[],_,x=>by simp[aP,aH]
 |(y,v)::e,h,x=>by
  simp only[iU]at h;simp only[aP]
  split
  ·exact h.1
  ·exact iU.get h.2 x
theorem dG.get{H:ah}:∀{h:ah},dG H h->∀(b:Nat)(o:Obj),h[b]?=some o->o.refs (aN H)
 |[],_,b,o,a=>by simp at a
 |c::h,hr,b,o,a=>by
  simp only[dG]at hr;cases b with
  |zero=>simp at a;subst a;exact hr.1
  |succ b=>exact dG.get hr.2 b o (by simpa using a)
theorem rh.of{s t:St}(a:tA s.env t.env)(c:lN s.heap t.heap)(e:iU t.heap t.env)(f:dG t.heap t.heap):rh s t:=
 ⟨fun x=>(a.get x).imp id .inl,fun b o d=>(c.get b o d).imp id .inl,e.get,f.get⟩
theorem df.of{N:Nat}{s t:St}(hn:t.heap.take N=s.heap.take N)(c:tA s.env t.env)(d:lN s.heap t.heap)(e:iU t.heap t.env)(f:dG t.heap t.heap):df N s t:=by
 refine .inr ⟨rh.of c d e f,fun b a=>?_⟩;have:=congrArg (fun l:ah=>l[b]?) hn;simpa[List.getElem?_take,a]using this
theorem Qy{f:dq}{fn:Func}(an:dq->Bool)(h:aB P f fn)(b:P.follows .mixedOrders=true){args:List AV}{H H':ah}{v:AV}(hn:args.length<=fn.ntmps)
 (c:cr P an (fn.ntmps,H.length) (fn.body.getD .skip) (vL P fn.results.toList H.length H' v) ⟨jv 0 args,H⟩):c8 P f H args H' v:=by
 have hs:=h.stat;simp only[cx,bne_iff_ne]at hs;have a:fn.body=some (fn.body.getD .skip):=by
  have:=hs.1.1;cases d:fn.body<;>simp_all
 exact YF (qH an) (Ac (qH an) b) h.enters h.func a hs.2 hn c
theorem Qz(an:dq->Bool)(f:P.follows .mixedOrders=true){b:Nat}{L:eA}{H H':ah}{args:List AV}{v:AV}(d:H[b]?=some (.loop L))(e:args.length=L.params.length)
 (a:(L.params.all (fun x=>decide (x<L.n))&&codeOk fit L.n L.assign&&codeOk fit L.n L.body)=true)(g:AZ P an L b args H (fun c h=>h=v/\df H.length ⟨[],c⟩ ⟨[],H'⟩)):fQ P b H args H' v:=by
 simp only[cx,h7,decide_eq_true_eq]at a;exact YD (qH an) (Ac (qH an) f) d e a.1.1 a.1.2 a.2 g
theorem again{N:Nat}{α:Type}{mk:α->St}{ok:α->Prop}{m:α->Nat}{n:Nat}{s':St}(a':α)(c:m a'<n)(d:ok a')(e:df N s' (mk a')):∃a b,a<n/\df N s' b/\∃a',ok a'/\b=mk a'/\a=m a':=
 ⟨m a',mk a',c,e,a',d,rfl,rfl⟩
end
section
variable{P:da}{an:dq->Bool}
def aV{α:Type}(F:(α->Prop)->Prop):Prop:=∀K,F K->∃a,K a/\∀b:α->Prop,b a->F b
theorem aV.one{α β:Type}(f:β->α)(b:β):aV (fun K:α->Prop=>K (f b)):=fun _ h=>⟨f b,h,fun _ h=>h⟩
theorem aV.false{α:Type}:aV (fun _:α->Prop=>False):=fun _ h=>h.elim
theorem aV.and{α:Type}{p:Prop}{F:(α->Prop)->Prop}(h:aV F):aV (fun K=>p/\F K):=fun K hk=>by
 obtain⟨a,c,d⟩:=h K hk.2;exact⟨a,c,fun b h=>⟨hk.1,d b h⟩⟩
theorem aV.ex{α:Type}{β:Sort _}{F:β->(α->Prop)->Prop}(h:∀b,aV (F b)):aV (fun K=>∃b,F b K):=fun K⟨b,f⟩=>by
 obtain⟨a,d,e⟩:=h b K f;exact⟨a,d,fun c h=>⟨b,e c h⟩⟩
theorem aV.or{α:Type}{F G:(α->Prop)->Prop}(h:aV F)(e:aV G):aV (fun K=>F K\/G K):=fun K hk=>by
 rcases hk with hk|hk
 ·obtain⟨a,c,d⟩:=h K hk;exact⟨a,c,fun b h=>.inl (d b h)⟩
 ·obtain⟨a,c,d⟩:=e K hk;exact⟨a,c,fun b h=>.inr (d b h)⟩
theorem aV.ite{α:Type}{p:Prop}[Decidable p]{F G:(α->Prop)->Prop}(h:aV F)(f:aV G):aV (fun K=>if p then F K else G K):=fun K hk=>by
 split at hk
 ·rename_i e;obtain⟨a,c,d⟩:=h K hk;exact⟨a,c,fun b h=>by simpa[e]using d b h⟩
 ·rename_i e;obtain⟨a,c,d⟩:=f K hk;exact⟨a,c,fun b h=>by simpa[e]using d b h⟩
theorem aV.bind{α β:Type}{F:(α->Prop)->Prop}{G:α->(β->Prop)->Prop}(h:aV F)(d:∀a,aV (G a)):aV (fun K=>F (fun a=>G a K)):=fun K hk=>by
 obtain⟨a,e,f⟩:=h _ hk;obtain⟨b,g,i⟩:=d a K e;exact⟨b,g,fun c h=>f _ (i c h)⟩
theorem aV.map{α β:Type}{F:(α->Prop)->Prop}(h:aV F)(f:α->β):aV (fun K=>F (fun a=>K (f a))):=h.bind fun a=>aV.one f a
theorem Xp(T:db)(H:ah)(a:AV):aV (pV P T H a):=by
 unfold pV
 repeat' first
  |exact aV.false
  |exact aV.one id _
  |refine aV.and ?_
  |refine aV.ex fun _=>?_
  |split
theorem W2(T:db)(H:ah)(a x:AV):aV (pK P T H a x):=by
 unfold pK
 repeat' first
  |exact aV.false
  |exact aV.one id _
  |refine aV.and ?_
  |refine aV.ex fun _=>?_
  |split
theorem U7(T:db)(a:AV)(f:Nat):aV (pA P T a f):=by
 unfold pA
 repeat' first
  |exact aV.false
  |exact aV.one id _
  |refine aV.and ?_
  |refine aV.ex fun _=>?_
  |split
theorem U6(T:db)(H:ah)(a i:AV):aV (pz P T H a i):=by
 unfold pz
 repeat' first
  |exact aV.false
  |exact aV.one id _
  |refine aV.and ?_
  |refine aV.ex fun _=>?_
  |split
theorem VJ(T X:db)(H:ah)(s x:AV):aV (pC P T X H s x):=by
 unfold pC
 repeat' first
  |exact aV.false
  |exact aV.one id _
  |refine aV.and ?_
  |refine aV.ex fun _=>?_
  |refine aV.ite ?_ ?_
  |split
theorem Wo{α:Type}{F:Nat->(α->Prop)->Prop}(x:Option AV)(d:Nat)(h:∀n,aV (F n)):aV (fun K=>ju x d (fun n=>F n K)):=by
 unfold ju
 split
 ·exact h _
 ·exact aV.and (h _)
 ·exact aV.false
theorem W3(T:db)(H:ah)(x:AV)(lo hi:Option AV):aV (pL P T H x lo hi):=by
 unfold pL
 repeat' first
  |exact aV.false
  |exact aV.one id _
  |refine aV.and ?_
  |refine Wo _ _ fun _=>?_
  |refine aV.ite ?_ ?_
  |split
theorem Ya(op:eb)(T:db)(c:Bool)(H:ah)(x y:AV)(f:PV->aY):aV (fun K:aY->Prop=>lM P op T c H x y (fun v=>K (f v))):=by
 unfold lM
 repeat' first
  |exact aV.false
  |exact aV.one f _
  |refine aV.and ?_
  |(unfold rk;split)
  |(unfold rj;split)
  |split
theorem EJ(o:Oper)(ρ:dp->AV)(H:ah):aV (gd P an o ρ H):=by
 unfold gd
 repeat' first
  |exact aV.false
  |exact aV.one id _
  |exact Xp _ _ _
  |exact W2 _ _ _ _
  |exact U7 _ _ _
  |exact U6 _ _ _ _
  |exact W3 _ _ _ _ _
  |exact VJ _ _ _ _ _
  |exact Ya _ _ _ _ _ _ _
  |refine aV.and ?_
  |refine aV.ex fun _=>?_
  |refine aV.ite ?_ ?_
  |refine aV.or ?_ ?_
  |split
  |dsimp only
theorem LK(d:Bool)(f:dq)(args:List AV)(H:ah){α:Type}(g:AV->ah->α):aV (fun K:α->Prop=>kO P d f args H (fun v H'=>K (g v H'))):=by
 unfold kO;refine aV.or (aV.ex fun vs=>aV.ex fun v=>aV.and (aV.and ?_)) (aV.and (aV.or (aV.ex fun vs=>aV.ex fun H1=>aV.ex fun v=>aV.and (aV.and ?_)) (aV.or (aV.ex fun H'=>aV.ex fun v=>aV.and ?_) (aV.or (aV.ex fun e=>aV.and (aV.and ?_)) (aV.ex fun aA=>aV.ex fun v=>aV.and (aV.and ?_))))))
 ·exact aV.one (fun v=>g (.p v) H) v
 ·exact aV.one (fun v=>g (.p v) H1) v
 ·exact aV.one (fun v=>g v H') v
 ·exact aV.one (fun _:Unit=>g e.v (bt H e.aO++e.ba)) ()
 ·exact aV.one (fun v=>g (.p v) H) v
theorem K9(f:dq)(args:List AV)(H:ah):aV (kS P f args H):=by
 unfold kS;refine aV.or (aV.ex fun vs=>aV.ex fun v=>aV.and (aV.and (aV.one id _))) (aV.or (aV.ex fun vs=>aV.ex fun bs=>aV.ex fun aA=>aV.ex fun aO=>aV.ex fun v=>aV.and (aV.and (aV.and (aV.one id _)))) (aV.or (aV.ex fun e=>aV.and (aV.and (aV.one id _))) (aV.ex fun aA=>aV.ex fun v=>aV.and (aV.and (aV.one id _)))))
theorem LI(d:Bool)(o:Oper)(s:St):aV (fun K=>kK P an d o K s):=by
 unfold kK
 split
 ·split
  ·exact LK _ _ _ _ (fun v H'=>(⟨put o.dst v s.env,H'⟩:St))
  ·exact LK _ _ _ _ (fun v H'=>(⟨put o.dst v s.env,H'⟩:St))
  ·exact aV.ex fun H'=>aV.ex fun v=>aV.and (aV.one (fun _:Unit=>(⟨put o.dst v s.env,H'⟩:St)) ())
  ·exact aV.false
 ·exact(EJ o _ _).map (fun e=>e.app o.dst s)
theorem LJ(o:Oper)(s:St):aV (kq P an o s):=by
 unfold kq
 split
 ·split
  ·exact K9 _ _ _
  ·exact K9 _ _ _
  ·exact aV.ex fun e=>aV.and (aV.and (aV.one id _))
  ·exact aV.false
 ·exact EJ o _ _
theorem AG(d:Bool)(a:Array Oper):∀(l:List Oper)(s:St),aV (fun K=>iF P an d a l K s)
 |[],s=>by simp only[iF];exact aV.one id s
 |o::l,s=>by
  have go:aV (fun K=>kK P an d o (iF P an d a l K) s):=(LI d o s).bind fun t=>AG d a l t;simp only[iF]
  split
  ·exact go
  ·split
   ·split
    ·exact go
    ·exact AG d a l _
   ·exact AG d a l _
   ·exact aV.false
theorem Ao(b:Array Oper):∀(l:List Oper)(i:Nat)(a:List Touch)(s:St),aV (fun K=>gV P an b l i a K s)
 |[],i,a,s=>by simp only[gV];exact aV.and (aV.one id s)
 |o::l,i,a,s=>by
  have go:aV (fun K=>kq P an o s fun e=>gV P an b l (i+1) (gW i s.heap.length e a) K (e.app o.dst s)):=(LJ o s).bind fun e=>Ao b l (i+1) _ _;simp only[gV]
  split
  ·exact go
  ·split
   ·split
    ·exact go
    ·exact Ao b l (i+1) a _
   ·exact Ao b l (i+1) a _
   ·exact aV.false
def BZ(F:(bE->St->Prop)->Prop):Prop:=∀Q,F Q->∃e s,Q e s/\∀a:bE->St->Prop,a e s->F a
inductive yj(P:da)(an:dq->Bool)(q:Cx)(b:Code)(e:bE)(s:St):Nat->St->Prop
 |stop {k:Nat} {u:St}:(∀Q:bE->St->Prop,Q e s->cr P an q b Q u)->e≠.normal->yj P an q b e s k u
 |step {k m:Nat} {u s1 u':St}:(∀Q:bE->St->Prop,Q .normal s1->cr P an q b Q u)->m<k->df q.2 s1 u'->yj P an q b e s m u'->yj P an q b e s k u
theorem Xq(j:Option Code)(s:St):BZ (fun Q=>kI Q j s):=fun Q h=>by
 unfold kI at h
 split at h
 ·exact⟨.normal,s,h,fun _ h=>h⟩
 ·rename_i id;exact⟨.exit id,s,h,fun _ h=>h⟩
 ·exact⟨.ret,s,h,fun _ h=>h⟩
 ·exact h.elim
theorem LH(b:Nat)(env:Env)(H:ah):BZ (fun Q=>iT b env Q H):=fun Q h=>by
 unfold iT at h
 split at h
 ·rename_i L f;obtain⟨e,s,c,d⟩:=Xq _ _ Q h.2;exact⟨e,s,c,fun a hq=>by unfold iT;simp only[f];exact⟨h.1,d a hq⟩⟩
 ·exact h.elim
theorem Xa(f:AV)(b:Nat)(H:ah)(env:Env):BZ (fun Q=>kg P f b H (iT b env Q)):=fun Q h=>by
 unfold kg at h
 split at h
 ·obtain⟨H',v,c,d⟩:=h;obtain⟨e,s,k1,k2⟩:=LH b env H' Q d;exact⟨e,s,k1,fun a hq=>by simp only[kg];exact⟨H',v,c,k2 a hq⟩⟩
 ·obtain⟨H',v,c,d⟩:=h;obtain⟨e,s,k1,k2⟩:=LH b env H' Q d;exact⟨e,s,k1,fun a hq=>by simp only[kg];exact⟨H',v,c,k2 a hq⟩⟩
 ·exact h.elim
theorem py{q:Cx}:∀(c:Code)(s:St),BZ (fun Q=>cr P an q c Q s)
 | .skip,s| .label _,s=>fun Q h=>⟨.normal,s,h,fun _ h=>h⟩
 | .exit id,s=>fun Q h=>⟨.exit id,s,h,fun _ h=>h⟩
 | .ret,s=>fun Q h=>⟨.ret,s,h,fun _ h=>h⟩
 | .region id ops draw,s=>fun Q h=>by
  simp only[cr]at h⊢
  split at h
  ·rename_i l;obtain⟨t,d,g⟩:=Ao ops _ _ _ _ _ h;exact⟨.normal,t,d,fun Q' h=>by simp only[l,if_true];exact g _ h⟩
  ·rename_i l;obtain⟨t,d,g⟩:=AG _ ops _ _ _ h;exact⟨.normal,t,d,fun Q' h=>by rw[if_neg l];exact g _ h⟩
 | .seq a b,s=>fun Q h=>by
  simp only[cr]at h⊢;obtain⟨e,t,d,g⟩:=py a s _ h;cases e with
  |normal=>
   obtain⟨e',r,k,y⟩:=py b t _ d;exact⟨e',r,k,fun Q' h=>g _ (y Q' h)⟩
  |exit id=>exact⟨.exit id,t,d,fun Q' h=>g _ h⟩
  |ret=>exact⟨.ret,t,d,fun Q' h=>g _ h⟩
 | .cond c a b,s=>fun Q h=>by
  simp only[cr]at h⊢
  split at h
  ·split at h
   ·rename_i p;obtain⟨e,t,d,g⟩:=py a s _ h;exact⟨e,t,d,fun Q' h=>by rw[if_pos p];exact g _ h⟩
   ·rename_i p;obtain⟨e,t,d,g⟩:=py b s _ h;exact⟨e,t,d,fun Q' h=>by rw[if_neg p];exact g _ h⟩
  ·exact h.elim
 | .block id b,s=>fun Q h=>by
  simp only[cr]at h⊢;obtain⟨e,t,d,g⟩:=py b s _ h;cases e with
  |normal=>exact⟨.normal,t,d,fun Q' h=>g _ h⟩
  |exit i=>
   by_cases hi:i=id
   ·simp only[hi,if_true]at d;exact⟨.normal,t,d,fun Q' h=>g _ (by simp only[hi,if_true];exact h)⟩
   ·simp only[hi,if_false]at d;exact⟨.exit i,t,d,fun Q' h=>g _ (by simp only[hi,if_false];exact h)⟩
  |ret=>exact⟨.ret,t,d,fun Q' h=>g _ h⟩
 | .scope b,s=>fun Q h=>by simp only[cr]at h⊢;exact py b s Q h
 | .loop b,s=>fun Q h=>by
  simp only[cr]at h⊢;obtain⟨I,⟨w,t0,hf,hI⟩,F⟩:=h;have key:∀(n:Nat)(t:St),I n t->∃e u,Q e u/\e≠.normal/\yj P an q b e u n t:=by
   intro n
   induction n using l0 with
   |_ n G=>
    intro t hI;obtain⟨e,s1,d,g⟩:=py b t _ (F n t hI);cases e with
    |normal=>
     obtain⟨m,r,j,o,z⟩:=d;obtain⟨e,u,k1,k2,k3⟩:=G m j r z;exact⟨e,u,k1,k2,.step g j o k3⟩
    |exit id=>exact⟨.exit id,s1,d,s_,.stop g s_⟩
    |ret=>exact⟨.ret,s1,d,s_,.stop g s_⟩
  obtain⟨e,u,d,g,k⟩:=key w t0 hI;refine⟨e,u,d,fun Q' v=>⟨yj P an q b e u,⟨w,t0,hf,k⟩,?_⟩⟩;intro n t C;cases C with
  |stop hs E=>
   refine hs _ ?_;cases e with
   |normal=>exact(E rfl).elim
   |exit id=>exact v
   |ret=>exact v
  |step hs j o D=>exact hs _ ⟨_,_,j,o,D⟩
 | .rangeFunc f H a b,s=>fun Q h=>by
  simp only[cr]at h;obtain⟨A,x,B,h⟩:=h;obtain⟨e,t,d,g⟩:=Xa _ _ _ _ Q h;exact⟨e,t,d,fun Q' hq=>by simp only[cr];exact⟨A,x,B,g Q' hq⟩⟩
 | .goto _,_| .refuse _,_=>fun Q h=>by simp[cr]at h
def Spec(P:da)(f:dq)(args:List PV)(Q:PV->Prop):Prop:=∃v,aq P f args v/\Q v
theorem Spec.mono{f:dq}{args:List PV}{Q a:PV->Prop}(h:Spec P f args Q)(hq:∀v,Q v->a v):Spec P f args a:=by
 obtain⟨v,b,c⟩:=h;exact⟨v,b,hq v c⟩
end
def q8(id:Nat)(Q:bE->St->Prop)(e:bE)(s:St):Prop:=
 match e with
 | .exit i=>if i=id then Q .normal s else Q (.exit i) s
 |e=>Q e s
theorem Vn{id:Nat}{Q:bE->St->Prop}{s:St}:q8 id Q .normal s=Q .normal s:=(rfl)
theorem Wq{id i:Nat}{Q:bE->St->Prop}{s:St}:q8 id Q (.exit i) s=if i=id then Q .normal s else Q (.exit i) s:=(rfl)
theorem Xs{id:Nat}{Q:bE->St->Prop}{s:St}:q8 id Q .ret s=Q .ret s:=(rfl)
def vD(N n:Nat)(I:Nat->St->Prop)(Q:bE->St->Prop)(e:bE)(s:St):Prop:=
 match e with
 | .normal=>∃a b,a<n/\df N s b/\I a b
 |e=>Q e s
theorem Vc{N n:Nat}{I:Nat->St->Prop}{Q:bE->St->Prop}{s:St}:vD N n I Q .normal s=∃a b,a<n/\df N s b/\I a b:=(rfl)
theorem VM{N n id:Nat}{I:Nat->St->Prop}{Q:bE->St->Prop}{s:St}:vD N n I Q (.exit id) s=Q (.exit id) s:=(rfl)
theorem W6{N n:Nat}{I:Nat->St->Prop}{Q:bE->St->Prop}{s:St}:vD N n I Q .ret s=Q .ret s:=(rfl)
section ajr
variable{P:da}
@[congr] theorem aDt{b:Array Oper}{l a:List Touch}(h:l=a):jw b l=jw b a:=by rw[h]
end ajr
section
variable{P:da}{an:dq->Bool}
abbrev ft:=Option (Prop×aY)
def cq(r:ft)(K:aY->Prop):Prop:=
 match r with
 |some (p,e)=>p/\K e
 |none=>False
theorem Xf{p:Prop}{e:aY}{K:aY->Prop}:cq (some (p,e)) K=(p/\K e):=(rfl)
theorem XK{K:aY->Prop}:cq none K=False:=(rfl)
@[congr] theorem aNb{r a:ft}{K:aY->Prop}(h:r=a):cq r K=cq a K:=by rw[h]
def Can(F:(aY->Prop)->Prop)(r:ft):Prop:=∀K,cq r K->F K
theorem Can.none{F:(aY->Prop)->Prop}:Can F none:=fun _ h=>h.elim
def ye(P:da)(T:db)(H:ah)(a:AV):ft:=
 match a with
 | .ptr b path=>match H[b]? with
  |some (.box fz t)=>match fq t path with
   |some s=>some (kindOf P T=ad s,{v:=s,aA:=[(b,.box fz t)]})
   |none=>none
  |_=>none
 | .cm b aE al i path=>match H[b]? with
  |some (.arr k d c es)=>match es[i]? with
   |some x=>match fq x path with
    |some s=>some ((aE=d/\al=c)/\kindOf P T=ad s,{v:=s,aA:=[(b,.arr k d c es)]})
    |none=>none
   |none=>none
  |_=>none
 | .p (.cE t)=>some (kindOf P T=aL t,{v:=.p t})
 |_=>none
theorem Zy{T:db}{H:ah}{a:AV}:Can (pV P T H a) (ye P T H a):=by
 intro K h;unfold ye at h;unfold pV
 split at h
 ·split at h
  ·rename_i b
   split at h
   ·rename_i hs;simp only[cq]at h;simp only[b,hs];exact h
   ·exact h.elim
  ·exact h.elim
 ·split at h
  ·rename_i b
   split at h
   ·rename_i x hx;obtain⟨hi,hx⟩:=hQ.1 hx
    split at h
    ·rename_i hs;simp only[cq]at h;simp only[b];exact⟨h.1.1.1,h.1.1.2,hi,by rw[hx,hs];exact⟨h.1.2,h.2⟩⟩
    ·exact h.elim
   ·exact h.elim
  ·exact h.elim
 ·exact h
 ·exact h.elim
def xG(P:da)(T:db)(H:ah)(a x:AV):ft:=
 match a with
 | .ptr b path=>match H[b]? with
  |some (.box false t)=>match fq t path,gJ t path x with
   |some s,some d=>some ((kindOf P T=ad x/\ad x≠.bad)/\ad s=ad x,{v:=.p (.aD []),aA:=[(b,.box false t)],aO:=[(b,.box false d)]})
   |_,_=>none
  |_=>none
 | .cm b aE al i path=>match H[b]? with
  |some (.arr k e c es)=>match es[i]? with
   |some y=>match fq y path,gJ y path x with
    |some s,some d=>some ((kindOf P T=ad x/\ad x≠.bad)/\(aE=e/\al=c/\k≠.frozen)/\ad s=ad x,{v:=.p (.aD []),aA:=[(b,.arr k e c es)],aO:=[(b,.arr k e c (es.set i d))]})
    |_,_=>none
   |none=>none
  |_=>none
 |_=>none
theorem Yv{T:db}{H:ah}{a x:AV}:Can (pK P T H a x) (xG P T H a x):=by
 intro K h;unfold xG at h;unfold pK
 split at h
 ·split at h
  ·rename_i b
   split at h
   ·rename_i hs c;simp only[cq]at h;simp only[b,hs,c];exact⟨h.1.1.1,h.1.1.2,h.1.2,h.2⟩
   ·exact h.elim
  ·exact h.elim
 ·split at h
  ·rename_i b
   split at h
   ·rename_i y d;obtain⟨hi,d⟩:=hQ.1 d
    split at h
    ·rename_i hs c;simp only[cq]at h;simp only[b];exact⟨h.1.1.1,h.1.1.2,h.1.2.1.1,h.1.2.1.2.1,h.1.2.1.2.2,hi,by rw[d,hs,c];exact⟨h.1.2.2,h.2⟩⟩
    ·exact h.elim
   ·exact h.elim
  ·exact h.elim
 ·exact h.elim
def w8(P:da)(T:db)(a:AV)(f:Nat):ft:=
 match eC P T with
 |some (u,n)=>match a with
  | .ptr b path=>some (f<n,{v:=.ptr b (path++[(u,f)])})
  | .cm b aE al i path=>some (f<n,{v:=.cm b aE al i (path++[(u,f)])})
  | .p (.cE t)=>match(bW t)[f]? with
   |some g=>some (f<n/\aL t=.agg u,{v:=.p (.cE g)})
   |none=>none
  |_=>none
 |_=>none
theorem Vk{T:db}{a:AV}{f:Nat}:Can (pA P T a f) (w8 P T a f):=by
 intro K h;unfold w8 at h;unfold pA
 split at h
 ·rename_i hs;simp only[hs]
  split at h
  ·exact h
  ·exact h
  ·split at h
   ·rename_i b;simp only[cq]at h;simp only[b];exact⟨h.1.1,h.1.2,h.2⟩
   ·exact h.elim
  ·exact h.elim
 ·exact h.elim
def wZ(P:da)(T:db)(H:ah)(x i:AV):ft:=
 match i with
 | .p (.int _ i)=>match x with
  | .p (.cZ _ es)=>match es[i.toNat]? with
   |some y=>some (0<=i/\dj P T=some (bP P (aL y)),{v:=.p (.cE y)})
   |none=>none
  | .p (.seq es)=>match es[i.toNat]? with
   |some y=>some (0<=i/\dj P T=some (bP P (aL y)),{v:=.p (.cE y)})
   |none=>none
  | .sl b aE al off len=>match H[b]? with
   |some (.arr k c a es)=>some (0<=i/\dj P T=some al/\i.toNat<len/\aE=c/\al=a/\¬(k.gr=true/\es=[]),{v:=.cm b aE al (off+i.toNat) [],aA:=[(b,.arr k c a es)]})
   |_=>none
  | .ptr b path=>match iJ P T with
   |some (u,n)=>some (0<=i/\i.toNat<n,{v:=.ptr b (path++[(u,i.toNat)])})
   |_=>none
  | .cm b aE al j path=>match iJ P T with
   |some (u,n)=>some (0<=i/\i.toNat<n,{v:=.cm b aE al j (path++[(u,i.toNat)])})
   |_=>none
  | .p (.cE t)=>match iJ P T with
   |some (u,n)=>match(bW t)[i.toNat]? with
    |some g=>some (0<=i/\aL t=.agg u/\i.toNat<n,{v:=.p (.cE g)})
    |none=>none
   |_=>none
  |_=>none
 |_=>none
theorem Vj{T:db}{H:ah}{x i:AV}:Can (pz P T H x i) (wZ P T H x i):=by
 intro K h;unfold wZ at h;unfold pz
 split at h
 case h_2=>exact h.elim
 split at h
 ·split at h
  ·rename_i y a;obtain⟨hi,a⟩:=hQ.1 a;simp only[cq]at h;exact⟨h.1.1,hi,by rw[a];exact h.1.2,by rw[a];exact h.2⟩
  ·exact h.elim
 ·split at h
  ·rename_i y a;obtain⟨hi,a⟩:=hQ.1 a;simp only[cq]at h;exact⟨h.1.1,hi,by rw[a];exact h.1.2,by rw[a];exact h.2⟩
  ·exact h.elim
 ·split at h
  ·rename_i l;simp only[cq]at h;obtain⟨⟨b,c,d,e,f,g⟩,j⟩:=h;refine⟨b,c,d,?_⟩;rw[l];exact⟨e,f,g,j⟩
  ·exact h.elim
 ·split at h
  ·rename_i hs;simp only[cq]at h;simp only[hs];exact⟨h.1.1,h.1.2,h.2⟩
  ·exact h.elim
 ·split at h
  ·rename_i hs;simp only[cq]at h;simp only[hs];exact⟨h.1.1,h.1.2,h.2⟩
  ·exact h.elim
 ·split at h
  ·rename_i hs
   split at h
   ·rename_i k;simp only[cq]at h;simp only[hs,k];exact⟨h.1.1,h.1.2.1,h.1.2.2,h.2⟩
   ·exact h.elim
  ·exact h.elim
 ·exact h.elim
end
section
variable{P:da}{an:dq->Bool}
def xq(P:da)(T X:db)(H:ah)(s x:AV):ft:=
 match dj P T,jL H x with
 |some sz,some xs=>match s with
  | .p .aK=>some ((je P X=true/\(cG P (fw P T)).isSome=true/\gf P sz xs)/\xs.length<=dc,
   if xs.isEmpty then{v:=s,aA:=dR H x}else{v:=.sl H.length 0 sz 0 xs.length,aA:=dR H x,ba:=[.arr (gk P T) 0 sz xs]})
  | .sl b aE al off len=>match H[b]? with
   |some (.arr k c a es)=>some ((je P X=true/\(cG P (fw P T)).isSome=true/\gf P sz xs)/\(aE=c/\al=a/\al=sz/\off+len<=es.length)/\es.length+xs.length<=dc/\k≠ .frozen/\(k≠ .exact->off=0)/\(k= .bytes->fw P T=Gl.u8),
    if xs.isEmpty then{v:=s,aA:=(b,.arr k c a es)::dR H x}
    else match k with
     | .exact=>if off+len+xs.length<=es.length then
      {v:=.sl b aE al off (len+xs.length),aA:=(b,.arr k c a es)::dR H x,aO:=[(b,.arr .exact aE al (es.take (off+len)++xs++es.drop (off+len+xs.length)))]}
      else{v:=.sl H.length 0 sz 0 (len+xs.length),aA:=(b,.arr k c a es)::dR H x,ba:=[.arr (gk P T) 0 sz ((es.drop off).take len++xs)]}
     |_=>{v:=.sl b (aE+1) al 0 (len+xs.length),aA:=(b,.arr k c a es)::dR H x,aO:=[(b,.arr k (aE+1) al (es.take len++xs))]})
   |_=>none
  |_=>none
 |_,_=>none
theorem Wu{T X:db}{H:ah}{s x:AV}:Can (pC P T X H s x) (xq P T X H s x):=by
 intro K h;unfold xq at h;unfold pC
 split at h
 case h_2=>exact h.elim
 rename_i sz o g i;simp only[g,i]
 split at h
 ·simp only[cq]at h;obtain⟨⟨⟨a1,a2,a3⟩,a4⟩,hk⟩:=h;refine⟨a1,a2,a3,?_⟩;dsimp only
  split
  ·rename_i a;rw[if_pos a]at hk;exact hk
  ·rename_i a;rw[if_neg a]at hk;exact⟨a4,hk⟩
 ·split at h
  case h_2=>exact h.elim
  rename_i k n m l j;simp only[cq]at h;obtain⟨⟨⟨a1,a2,a3⟩,⟨rfl,rfl,d,e⟩,f,a9,b,c⟩,hk⟩:=h;refine⟨a1,a2,a3,?_⟩;simp only[j];refine⟨trivial,trivial,d,e,?_⟩
  split
  ·rename_i a;rw[if_pos a]at hk;exact hk
  ·rename_i a;rw[if_neg a]at hk;refine⟨f,?_⟩;cases k with
   |frozen=>exact a9 rfl
   |exact=>
    simp only at hk⊢
    split
    ·rename_i hc;rw[if_pos hc]at hk;exact hk
    ·rename_i hc;rw[if_neg hc]at hk;exact hk
   |grow=>exact⟨b s_,fun h=>(by cases h),hk⟩
   |bytes=>exact⟨b s_,c,hk⟩
 ·exact h.elim
def lU(x:Option AV)(d:Nat):Option (Prop×Nat):=
 match x with
 |none=>some (True,d)
 |some (.p (.int _ i))=>some (0<=i,i.toNat)
 |_=>none
theorem ov{x:Option AV}{d n:Nat}{p:Prop}{K:Nat->Prop}(h:lU x d=some (p,n))(a:p)(hk:K n):ju x d K:=by
 unfold lU at h;unfold ju
 split at h
 ·simp only[ms,Prod.mk.injEq]at h;obtain⟨rfl,rfl⟩:=h;exact hk
 ·simp only[ms,Prod.mk.injEq]at h;obtain⟨rfl,rfl⟩:=h;exact⟨a,hk⟩
 ·cases h
def xH(P:da)(T:db)(H:ah)(x:AV)(lo hi:Option AV):ft:=
 match x with
 | .p (.str s)=>match lU hi s.length,lU lo 0 with
  |some (p,h),some (q,l)=>some (jc P T=true/\p/\q/\h<=s.length/\l<=h,{v:=.p (.str ((s.take h).drop l))})
  |_,_=>none
 | .p .aK=>match lU hi 0,lU lo 0 with
  |some (p,h),some (q,l)=>some ((dj P T).isSome=true/\p/\q/\h<=0/\l<=h,{v:=.p .aK})
  |_,_=>none
 | .p (.cZ full es)=>match lU hi es.length,lU lo 0,dj P T with
  |some (p,h),some (q,l),some sz=>some (p/\q/\h<=es.length/\l<=h/\gf P sz (es.map .p),{v:=.p (.cZ (full&&h==es.length) ((es.take h).drop l))})
  |_,_,_=>none
 | .p (.seq es)=>match lU hi es.length,lU lo 0,dj P T with
  |some (p,h),some (q,l),some sz=>some (p/\q/\h<=es.length/\l<=h/\gf P sz (es.map .p),{v:=.p (.seq ((es.take h).drop l))})
  |_,_,_=>none
 | .sl b aE al off len=>match H[b]? with
  |some (.arr k c a es)=>match lU hi len,lU lo 0 with
   |some (p,h),some (q,l)=>some ((aE=c/\al=a/\dj P T=some al/\¬(k.gr=true/\es=[])/\off+len<=es.length)/\p/\q/\off+h<=es.length/\l<=h,
    if l=0 then{v:=.sl b aE al off h,aA:=[(b,.arr k c a es)]}
    else if l=h then{v:=.p (.cZ false []),aA:=[(b,.arr k c a es)]}
    else{v:=.sl b aE al (off+l) (h-l),aA:=[(b,.arr k c a es)]})
   |_,_=>none
  |_=>none
 |_=>none
theorem Yw{T:db}{H:ah}{x:AV}{lo hi:Option AV}:Can (pL P T H x lo hi) (xH P T H x lo hi):=by
 intro K h;unfold xH at h;unfold pL
 split at h
 ·split at h
  case h_2=>exact h.elim
  rename_i a b;simp only[cq]at h;obtain⟨⟨a1,a2,a3,a4,a5⟩,hk⟩:=h;exact⟨a1,ov a a2 (ov b a3 ⟨a4,a5,hk⟩)⟩
 ·split at h
  case h_2=>exact h.elim
  rename_i a b;simp only[cq]at h;obtain⟨⟨a1,a2,a3,a4,a5⟩,hk⟩:=h;exact⟨a1,ov a a2 (ov b a3 ⟨a4,a5,hk⟩)⟩
 ·split at h
  case h_2=>exact h.elim
  rename_i a b d;simp only[cq]at h;obtain⟨⟨a2,a3,a4,a5,c⟩,hk⟩:=h;refine ov a a2 (ov b a3 ⟨a4,a5,?_⟩);simp only[d];exact⟨c,hk⟩
 ·split at h
  case h_2=>exact h.elim
  rename_i a b d;simp only[cq]at h;obtain⟨⟨a2,a3,a4,a5,c⟩,hk⟩:=h;refine ov a a2 (ov b a3 ⟨a4,a5,?_⟩);simp only[d];exact⟨c,hk⟩
 ·split at h
  case h_2=>exact h.elim
  rename_i g
  split at h
  case h_2=>exact h.elim
  rename_i a b;simp only[cq]at h;obtain⟨⟨⟨a1,a2,a3,a4,a5⟩,c,e,f,a9⟩,hk⟩:=h;simp only[g];refine⟨a1,a2,a3,a4,a5,ov a c (ov b e ⟨f,a9,?_⟩)⟩
  split
  ·rename_i hc;rw[if_pos hc]at hk;exact hk
  ·rename_i hc;rw[if_neg hc]at hk
   split
   ·rename_i hc;rw[if_pos hc]at hk;exact hk
   ·rename_i hc;rw[if_neg hc]at hk;exact hk
 ·exact h.elim
def Bl(P:da)(T:db)(H:ah)(x key:AV)(ok:Bool):ft:=
 match mA P T,key with
 |some (a,E),.p key=>match cG P E with
  |some z=>match x with
   | .p .fM=>some (gN P a key=true,{v:=.p (if ok then .aD [z,.bool false]else z)})
   | .p (.eJ es)=>match gA P a es key with
    |some r=>some (gN P a key=true,{v:= .p (match r with
      |some v=>if ok then .aD [v,.bool true]else v
      |none=>if ok then .aD [z,.bool false]else z)})
    |none=>none
   | .map b=>match H[b]? with
    |some (.map fz es)=>match gA P a es key with
     |some r=>some (gN P a key=true,{v:= .p (match r with
       |some v=>if ok then .aD [v,.bool true]else v
       |none=>if ok then .aD [z,.bool false]else z),aA:=[(b,.map fz es)]})
     |none=>none
    |_=>none
   |_=>none
  |none=>none
 |_,_=>none
def yM(P:da)(T:db)(H:ah)(m k x:AV):ft:=
 match mA P T,m,k,x with
 |some (a,_),.map b,.p key,.p v=>match H[b]? with
  |some (.map false es)=>match nu P a es key with
   |some _=>some (gN P a key=true,{v:=.p (.aD []),aA:=[(b,.map false es)],aO:=[(b,.map false (gM es key v))]})
   |none=>none
  |_=>none
 |_,_,_,_=>none
def AH(P:da)(T:db)(n:Nat)(x:AV):ft:=
 match x with
 | .p (.str s)=>some (jc P T=true,{v:=.ptr n [],ba:=[.eL s 0]})
 |_=>none
def Bo(H:ah)(a:AV):ft:=
 match a with
 | .ptr b []=>match H[b]? with
  |some (.eL s pos)=>some (True,if pos<s.length then
   {v:=.p (.aD [.bool true,.int .i64 pos,.int .i32 (hK (ib s) pos).1]),aA:=[(b,.eL s pos)],aO:=[(b,.eL s (pos+(hK (ib s) pos).2))]}
   else{v:=.p (.aD [.bool false]),aA:=[(b,.eL s pos)]})
  |_=>none
 |_=>none
def Bp(P:da)(T:db)(n:Nat)(l c:AV):ft:=
 match dj P T,cG P (fw P T),l,c with
 |some sz,some z,.p (.int .i64 l),.p (.int .i64 c)=>some (bP P (aL z)=sz/\0<=l/\l=c/\l<=dc,{v:=.sl n 0 sz 0 l.toNat,ba:=[.arr .exact 0 sz (hV l.toNat (.p z))]})
 |_,_,_,_=>none
def Al(x:AV):ft:=
 match x with
 | .ptr _ _| .cm _ _ _ _ _| .p (.cE _)=>some (True,{v:=x})
 |_=>none
def tU(b:Bool)(c:List AV):ft:=
 match c with
 | .p (.int k a)::r=>match nj k b r a with
  |some n=>some (True,{v:=.p (.int k n)})
  |none=>none
 |_=>none
def Bk(f:dq)(d c:List AV):ft:=
 match eE d,eE c with
 |some a,some b=>some (True,{v:=.p (.func f a b)})
 |_,_=>some (True,{v:=.func f d c})
end
section
variable{P:da}{an:dq->Bool}
def Bn(c a b:AV):ft:=
 match c with
 | .p (.bool t)=>some (True,{v:=if t then a else b})
 |_=>none
def AU(P:da)(T:db)(n:Nat):ft:=
 match cG P T with
 |some z=>some (kindOf P T=aL z/\aL z≠.bad/\kn T (aL z)=true,{v:=.ptr n [],ba:=[.box false (.p z)]})
 |none=>none
def F1(P:da)(T:db)(n:Nat)(x:AV):ft:=some (kindOf P T=ad x/\ad x≠.bad/\kn T (ad x)=true,{v:=.ptr n [],ba:=[.box false x]})
def AR(P:da)(T:db)(parts:List (Nat×AV)):ft:=
 match kindOf P T,cG P T with
 | .agg u,some z=>match dw P u with
  |some l=>some (aL z=.agg u/\ni P l parts,{v:=iM u (iZ ((bW z).map .p) parts)})
  |none=>none
 |_,_=>none
def zJ(P:da)(T:db)(n:Nat)(parts:List (Nat×AV))(b:Nat):ft:=
 match dj P T,cG P (fw P T)with
 |some sz,some z=>some (bP P (aL z)=sz/\n*sz<=1000000/\ni P (hV n sz) parts,{v:=.sl b 0 sz 0 n,ba:=[.arr .exact 0 sz (iZ (hV n (.p z)) parts)]})
 |_,_=>none
def vX(op:eb)(k:ea)(a b:Int):Prop×PV:=
 match op with
 | .add=>(True,.int k (k.wrap (a+b)))
 | .sub=>(True,.int k (k.wrap (a-b)))
 | .mul=>(True,.int k (k.wrap (a*b)))
 | .quo=>(b≠0,.int k (k.wrap (a.tdiv b)))
 | .rem=>(b≠0,.int k (a.tmod b))
 | .and=>(True,.int k (k.wrap (ck k.bits a&&&ck k.bits b).toNat))
 | .or=>(True,.int k (k.wrap (ck k.bits a|||ck k.bits b).toNat))
 | .xor=>(True,.int k (k.wrap (ck k.bits a^^^ck k.bits b).toNat))
 | .andNot=>(True,.int k (k.wrap (ck k.bits a&&&~~~ck k.bits b).toNat))
 | .eql=>(True,.bool (a==b))
 | .neq=>(True,.bool (a !=b))
 | .lss=>(True,.bool (decide (a<b)))
 | .leq=>(True,.bool (decide (a<=b)))
 | .gtr=>(True,.bool (decide (a>b)))
 | .geq=>(True,.bool (decide (a>=b)))
 | .shl=>(0<=b,.int k (k.wrap (a*2^(min b.toNat k.bits))))
 | .shr=>(0<=b,.int k (a.fdiv (2^(min b.toNat k.bits))))
theorem arn{op:eb}{k:ea}{a b:Int}{K:PV->Prop}(h:(vX op k a b).1)(hk:K (vX op k a b).2):rk op k a b K:=by
 cases op<;>simp only[vX,rk]at*<;>first|exact hk|exact⟨h,hk⟩
def GH(op:eb)(a b:List Nat):Option (Prop×PV):=
 match op with
 | .add=>some (a.length+b.length<9223372036854775808,.str (a++b))
 | .eql=>some (True,.bool (a==b))
 | .neq=>some (True,.bool (!(a==b)))
 | .lss=>some (True,.bool (ka a b))
 | .leq=>some (True,.bool (ka a b||a==b))
 | .gtr=>some (True,.bool (!(ka a b||a==b)))
 | .geq=>some (True,.bool (!(ka a b)))
 |_=>none
def lT(P:da)(op:eb)(T:db)(c:Bool)(H:ah)(x y:AV):ft:=
 match x,y with
 | .p (.int k a),.p (.int d b)=>some ((k=d\/op=.shl\/op=.shr)/\(vX op k a b).1,{v:=.p (vX op k a b).2})
 | .p (.str a),.p (.str b)=>match GH op a b with
  |some (p,v)=>some (p,{v:=.p v})
  |none=>none
 | .p (.bool a),.p (.bool b)=>match op with
  | .eql=>some (sT P T=true,{v:=.p (.bool (a==b))})
  | .neq=>some (sT P T=true,{v:=.p (.bool (!(a==b)))})
  |_=>none
 | .p (.st u fs),.p (.st u' gs)=>match iW P 9 T (.st u fs) (.st u' gs),op with
  |some r,.eql=>some (tP P T=true,{v:=.p (.bool r)})
  |some r,.neq=>some (tP P T=true,{v:=.p (.bool !r)})
  |_,_=>none
 |x,y=>match dF P T c y with
  |some k=>match cX H k x,op with
   |some r,.eql=>some (True,{v:=.p (.bool r),aA:=dR H x})
   |some r,.neq=>some (True,{v:=.p (.bool !r),aA:=dR H x})
   |_,_=>none
  |none=>none
theorem L3{op:eb}{T:db}{c:Bool}{H:ah}{x y:AV}{k:wC}{K:PV->Prop}(hk:dF P T c y=some k):lM P op T c H x y K=(match cX H k x,op with
  |some r,.eql=>K (.bool r)
  |some r,.neq=>K (.bool !r)
  |_,_=>False):=by
 have a:=hk;rcases Le hk with⟨rfl,rfl,_⟩|⟨rfl,rfl,_⟩|⟨rfl,rfl,_⟩|⟨rfl,rfl,_⟩|⟨rfl,rfl,_⟩
 all_goals
  unfold lM;cases x with
  |p v=>
   cases v<;>simp only[a]<;>(generalize cX H _ _=r;cases r<;>cases op<;>rfl)
  |_=>simp only[a];(generalize cX H _ _=r;cases r<;>cases op<;>rfl)
theorem aiz{op:eb}{T:db}{c:Bool}{H:ah}{x y:AV}:Can (fun K=>lM P op T c H x y (fun v=>K {v:=.p v,aA:=dR H x})) (lT P op T c H x y):=by
 intro K h;unfold lT at h;unfold lM
 split at h
 ·exact⟨h.1.1,arn h.1.2 h.2⟩
 ·split at h
  ·rename_i p v a;simp only[cq]at h;show rj op _ _ _;unfold GH at a
   split at a<;>first
    |(simp only[ms,Prod.mk.injEq]at a
      obtain⟨b,d⟩:=a;rw[<-b,<-d]at h;simp only[rj]
      first|exact h.2|exact⟨h.1,h.2⟩)
    |cases a
  ·exact h.elim
 ·split at h
  ·exact⟨h.1,h.2⟩
  ·exact⟨h.1,h.2⟩
  ·exact h.elim
 ·split at h
  ·rename_i e;simp only[cq]at h;simp only[e];exact⟨h.1,h.2⟩
  ·rename_i e;simp only[cq]at h;simp only[e];exact⟨h.1,h.2⟩
  ·exact h.elim
 ·rename_i b d f g
  split at h
  case h_2=>exact h.elim
  rename_i k hk;clear b d f g;show lM P op T c H x y _;rw[L3 hk];generalize cX H k x=q at h⊢;cases q<;>cases op<;>first|exact h.elim|exact h.2
def CD(op:UnOp)(x:AV):ft:=
 match op,x with
 | .not,.p (.bool b)=>some (True,{v:=.p (.bool (!b))})
 | .neg,.p (.int k n)=>some (True,{v:=.p (.int k (k.wrap (0-n)))})
 | .xor,.p (.int k n)=>some (True,{v:=.p (.int k (k.wrap (ck k.bits (if k.signed then -1 else k.max)^^^ck k.bits n).toNat))})
 |_,_=>none
def Bi(P:da)(S D:db)(x:AV):ft:=
 match P.underlying S,P.underlying D,x with
 |some _,some (.int k),.p (.int _ n)=>some (True,{v:=.p (.int k (k.wrap n))})
 |some _,some .string,.p (.str s)=>some (True,{v:=.p (.str s)})
 |_,_,_=>none
def zY(t:AV)(i:Nat):ft:=
 match t with
 | .p (.aD vs)=>match vs[i]? with
  |some v=>some (True,{v:=.p v})
  |none=>none
 | .aD vs=>match vs[i]? with
  |some v=>some (True,{v})
  |none=>none
 |_=>none
def AW(P:da)(T:db)(x i:AV):ft:=
 match x,i with
 | .p (.str s),.p (.int _ i)=>match s[i.toNat]? with
  |some c=>some (jc P T=true/\0<=i,{v:=.p (.int .u8 c)})
  |none=>none
 | .p (.st u es),.p (.int _ i)=>match iJ P T,(kC P u)[i.toNat]?,es[i.toNat]? with
  |some (u',n),some F,some g=>some (u'=u/\0<=i/\i.toNat<n/\kindOf P F=aL g,{v:=.p g})
  |_,_,_=>none
 |_,_=>none
def Cm(P:da)(T:db)(n:Nat)(H:ah)(x:AV):ft:=
 match lenOf H x with
 |some (m,aA)=>some (lJ P T x=true/\0<n,{v:=.p (.int .i64 m),aA})
 |none=>none
def o8(P:da)(an:dq->Bool)(o:Oper)(e:Env)(H:ah)(K:aY->Prop):Prop:=
 match o.op with
 | .move x| .assign x=>K {v:=ev e x}
 | .pick c a b=>cq (Bn (ev e c) (ev e a) (ev e b)) K
 | .alloc T=>cq (AU P T H.length) K
 | .box T x=>cq (F1 P T H.length (ev e x)) K
 | .build T parts=>cq (AR P T (parts.toList.map fun(i,x)=>(i,ev e x))) K
 | .buildSlice T n parts=>cq (zJ P T n (parts.toList.map fun(i,x)=>(i,ev e x)) H.length) K
 | .load T a=>cq (ye P T H (ev e a)) K
 | .store T a x=>cq (xG P T H (ev e a) (ev e x)) K
 | .binOp op T x y _=>cq (lT P op T (rG y) H (ev e x) (ev e y)) K
 | .unOp op _ x=>cq (CD op (ev e x)) K
 | .convert S D x=>cq (Bi P S D (ev e x)) K
 | .extract t i=>cq (zY (ev e t) i) K
 | .fieldAddr T a f=>cq (w8 P T (ev e a) f) K
 | .indexAddr T x i=>cq (wZ P T H (ev e x) (ev e i)) K
 | .index T x i=>cq (AW P T (ev e x) (ev e i)) K
 | .slice T x lo hi none=>cq (xH P T H (ev e x) (lo.map (ev e)) (hi.map (ev e))) K
 | .lookup T x i ok=>cq (Bl P T H (ev e x) (ev e i) ok) K
 | .mapUpdate T m k x| .insert T m k x=>cq (yM P T H (ev e m) (ev e k) (ev e x)) K
 | .range T x=>cq (AH P T H.length (ev e x)) K
 | .next it true=>cq (Bo H (ev e it)) K
 | .makeSlice T l c=>cq (Bp P T H.length (ev e l) (ev e c)) K
 | .nilCheck x=>cq (Al (ev e x)) K
 | .call c=>match c.callee with
  | .builtin .len=>(match c.args.toList with
   |[x]=>cq (Cm P (c.argTypes.getD 0 0) c.argTypes.size H (ev e x)) K
   |_=>False)
  | .builtin .append=>(match c.args.toList with
   |[s,x]=>c.argTypes.size=2/\cq (xq P (c.argTypes.getD 0 0) (c.argTypes.getD 1 0) H (ev e s) (ev e x)) K
   |_=>False)
  | .builtin .min=>cq (tU false (c.args.toList.map (ev e))) K
  | .builtin .max=>cq (tU true (c.args.toList.map (ev e))) K
  |_=>gd P an o (ev e) H K
 |_=>gd P an o (ev e) H K
theorem O7{o:Oper}{e:Env}{H:ah}{K:aY->Prop}(h:o8 P an o e H K):gd P an o (ev e) H K:=by
 unfold o8 at h;unfold gd;cases q:o.op<;>simp only[q]at h<;>simp only
 case move|assign=>exact h
 case pick c a b=>
  unfold Bn at h
  split at h
  ·rename_i hc;simp only[hc];exact h.2
  ·exact h.elim
 case alloc T=>
  unfold AU at h
  split at h
  ·rename_i hz;simp only[cq]at h;simp only[hz];exact⟨h.1.1,h.1.2.1,h.1.2.2,h.2⟩
  ·exact h.elim
 case box T x=>exact⟨h.1.1,h.1.2.1,h.1.2.2,h.2⟩
 case build T parts=>
  unfold AR at h
  split at h
  ·rename_i hk hz
   split at h
   ·rename_i w;simp only[cq]at h;simp only[hk,hz,w];exact⟨h.1.1,h.1.2,h.2⟩
   ·exact h.elim
  ·exact h.elim
 case buildSlice T n parts=>
  unfold zJ at h
  split at h
  ·rename_i hk hz;simp only[cq]at h;simp only[hk,hz];exact⟨h.1.1,h.1.2.1,h.1.2.2,h.2⟩
  ·exact h.elim
 case load T a=>exact Zy K h
 case store T a x=>exact Yv K h
 case binOp op T x y G=>exact aiz K h
 case unOp op T x=>
  unfold CD at h
  split at h
  ·rename_i hx;simp only[hx];exact h.2
  ·rename_i hx;simp only[hx];exact h.2
  ·rename_i hx;simp only[hx];exact h.2
  ·exact h.elim
 case convert S D x=>
  unfold Bi at h
  split at h
  ·rename_i d g j;simp only[d,g,j];exact h.2
  ·rename_i d g j;simp only[d,g,j];exact h.2
  ·exact h.elim
 case extract t i=>
  unfold zY at h
  split at h
  ·rename_i A
   split at h
   ·rename_i B;simp only[A,B];exact h.2
   ·exact h.elim
  ·rename_i A
   split at h
   ·rename_i B;simp only[A,B];exact h.2
   ·exact h.elim
  ·exact h.elim
 case fieldAddr T a f=>exact Vk K h
 case indexAddr T x i=>exact Vj K h
 case index T x i=>
  unfold AW at h
  split at h
  ·rename_i hx hi
   split at h
   ·rename_i c hc;obtain⟨C,rfl⟩:=hQ.1 hc;simp only[hx,hi];exact⟨h.1.1,h.1.2,C,h.2⟩
   ·exact h.elim
  ·rename_i hx hi
   split at h
   ·rename_i d g j;obtain⟨⟨g1,g2,g3,g4⟩,h⟩:=h;simp only[hx,hi,d,g,j];exact⟨g1,g2,g3,g4,h⟩
   ·exact h.elim
  ·exact h.elim
 case slice T x lo hi F=>
  cases F with
  |none=>exact Yw K h
  |some m=>simp only[gd,q]at h
 case lookup T x i ok=>
  unfold Bl at h
  split at h
  case h_2=>exact h.elim
  rename_i E hi;simp only[E,hi]
  split at h
  case h_2=>exact h.elim
  rename_i z hz;simp only[hz]
  split at h
  ·rename_i hx;simp only[hx];exact h
  ·rename_i I hx;simp only[hx]
   split at h
   case h_2=>exact h.elim
   rename_i r p;refine⟨h.1,?_⟩;simp only[p];cases r<;>exact h.2
  ·rename_i b hx;simp only[hx]
   split at h
   ·rename_i u
    split at h
    case h_2=>exact h.elim
    rename_i r p;refine⟨h.1,?_⟩;simp only[u,p];cases r<;>exact h.2
   ·exact h.elim
  ·exact h.elim
 case mapUpdate T m k x|insert T m k x=>
  unfold yM at h
  split at h
  ·rename_i d g j v;simp only[d,g,j,v]
   split at h
   ·rename_i u
    split at h
    case h_2=>exact h.elim
    rename_i p;refine⟨h.1,?_⟩;simp only[u,p];exact h.2
   ·exact h.elim
  ·exact h.elim
 case range T x=>
  unfold AH at h
  split at h
  ·rename_i hx;simp only[hx];exact h
  ·exact h.elim
 case next it s=>
  cases s with
  |false=>simp only[gd,q]at h
  |true=>
   dsimp only at h⊢;unfold Bo at h
   split at h
   case h_2=>exact h.elim
   rename_i hx;simp only[hx]
   split at h
   case h_2=>exact h.elim
   rename_i u;simp only[u];have h:=h.2
   split
   ·rename_i hc;rw[if_pos hc]at h;exact h
   ·rename_i hc;rw[if_neg hc]at h;exact h
 case makeSlice T l c=>
  unfold Bp at h
  split at h
  ·rename_i d g j v;simp only[d,g,j,v];exact⟨h.1.1,h.1.2.1,h.1.2.2.1,h.1.2.2.2,h.2⟩
  ·exact h.elim
 case nilCheck x=>
  unfold Al at h
  split at h
  ·rename_i hx;simp only[hx];rw[hx]at h;exact h.2
  ·rename_i hx;simp only[hx];rw[hx]at h;exact h.2
  ·rename_i hx;simp only[hx];rw[hx]at h;exact h.2
  ·exact h.elim
 case call c=>
  split at h
  ·rename_i hc
   split at h
   ·rename_i x hx;unfold Cm at h
    split at h
    ·rename_i w;simp only[cq]at h;simp only[hc,hx,hW,i9,w];exact⟨h.1.1,h.1.2,h.2⟩
    ·exact h.elim
   ·exact h.elim
  ·rename_i hc
   split at h
   ·rename_i s x hx;simp only[hc,hx,hW,i9];exact⟨h.1,Wu K h.2⟩
   ·exact h.elim
  ·rename_i hc;unfold tU at h
   split at h
   case h_2=>exact h.elim
   rename_i hx
   split at h
   case h_2=>exact h.elim
   rename_i p;simp only[hc,hx,p];exact h.2
  ·rename_i hc;unfold tU at h
   split at h
   case h_2=>exact h.elim
   rename_i hx
   split at h
   case h_2=>exact h.elim
   rename_i p;simp only[hc,hx,p];exact h.2
  ·unfold gd at h;simp only[q]at h;exact h
 all_goals first
  |exact h
  |(unfold gd at h
    simp only[q]at h;exact h)
  |(unfold gd at h
    simp only[q]at h)
end
section
variable{P:da}{an:dq->Bool}
def Nh(dst:Option Tmp)(s:St)(K:St->Prop)(e:aY):Prop:=K (e.app dst s)
def Se(dst:Option Tmp)(s:St)(K:St->Prop)(v:AV)(H:ah):Prop:=K ⟨put dst v s.env,H⟩
def Bj(P:da)(f:AV)(args:List AV)(H:ah)(K:AV->ah->Prop):Prop:=
 match f with
 | .p (.func g c a)=>kO P false g (c.map .p++args++a.map .p) H K
 | .func g c a=>kO P false g (c++args++a) H K
 | .map b=>∃H' v,fQ P b H args H' v/\K v H'
 |_=>False
def AQ(P:da)(f:AV)(args:List AV)(H:ah)(K:aY->Prop):Prop:=
 match f with
 | .p (.func g c a)=>kS P g (c.map .p++args++a.map .p) H K
 | .func g c a=>kS P g (c++args++a) H K
 | .map b=>∃e,pY P b args H.length e/\qc H e/\K e
 |_=>False
def nX(P:da)(an:dq->Bool)(o:Oper)(K:St->Prop)(s:St):Prop:=
 match o.op with
 | .call {callee:=.value f,args,.. }=>Bj P (ev s.env f) (args.toList.map (ev s.env)) s.heap (Se o.dst s K)
 |_=>o8 P an o s.env s.heap (Nh o.dst s K)
def ml(P:da)(an:dq->Bool)(o:Oper)(s:St)(K:aY->Prop):Prop:=
 match o.op with
 | .call {callee:=.value f,args,.. }=>AQ P (ev s.env f) (args.toList.map (ev s.env)) s.heap K
 |_=>o8 P an o s.env s.heap K
theorem XP{o:Oper}{K:St->Prop}{s:St}(h:nX P an o K s):kK P an false o K s:=by
 unfold nX at h;unfold kK
 split at h
 ·rename_i f args b a;simp only[a];unfold Bj at h
  split at h
  ·rename_i hf;simp only[hf];exact h
  ·rename_i hf;simp only[hf];exact h
  ·rename_i hf;simp only[hf];exact h
  ·exact h.elim
 ·rename_i c
  split
  ·rename_i f args b a;exact(c _ _ _ a).elim
  ·exact O7 h
theorem XU{o:Oper}{K:aY->Prop}{s:St}(h:ml P an o s K):kq P an o s K:=by
 unfold ml at h;unfold kq
 split at h
 ·rename_i f args b a;simp only[a];unfold AQ at h
  split at h
  ·rename_i hf;simp only[hf];exact h
  ·rename_i hf;simp only[hf];exact h
  ·rename_i hf;simp only[hf];exact h
  ·exact h.elim
 ·rename_i c
  split
  ·rename_i f args b a;exact(c _ _ _ a).elim
  ·exact O7 h
def kx(P:da)(an:dq->Bool)(a:Array Oper):List Oper->(St->Prop)->St->Prop
 |[],K,s=>K s
 |o::r,K,s=>match o.guard with
  |none=>nX P an o (kx P an a r K) s
  |some (j,want)=>match guardOf a j s.env with
   | .p (.bool t)=>if t=want then nX P an o (kx P an a r K) s else kx P an a r K ⟨put o.dst (.p (.aD [])) s.env,s.heap⟩
   | .p (.aD [])=>kx P an a r K ⟨put o.dst (.p (.aD [])) s.env,s.heap⟩
   |_=>False
def ke(P:da)(an:dq->Bool)(a:Array Oper):List Oper->Nat->List Touch->(St->Prop)->St->Prop
 |[],_,acc,K,s=>jw a acc=true/\K s
 |o::r,i,acc,K,s=>match o.guard with
  |none=>ml P an o s fun e=>ke P an a r (i+1) (gW i s.heap.length e acc) K (e.app o.dst s)
  |some (j,want)=>match guardOf a j s.env with
   | .p (.bool t)=>if t=want then ml P an o s fun e=>ke P an a r (i+1) (gW i s.heap.length e acc) K (e.app o.dst s)
    else ke P an a r (i+1) acc K ⟨put o.dst (.p (.aD [])) s.env,s.heap⟩
   | .p (.aD [])=>ke P an a r (i+1) acc K ⟨put o.dst (.p (.aD [])) s.env,s.heap⟩
   |_=>False
theorem Ba{b:Array Oper}:∀(l:List Oper){K a:St->Prop}{s:St},(∀s,K s->a s)->kx P an b l K s->iF P an false b l a s
 |[],K,a,s,hk,h=>by simp only[kx]at h;simp only[iF];exact hk s h
 |o::l,K,a,s,hk,h=>by
  have go:nX P an o (kx P an b l K) s->kK P an false o (iF P an false b l a) s:=fun h=>by
   obtain⟨t,f,g⟩:=LI false o s _ (XP h);exact g _ (Ba l hk f)
  simp only[kx]at h;simp only[iF]
  split at h
  ·rename_i c;simp only[c];exact go h
  ·rename_i j i c;simp only[c]
   split at h
   ·rename_i t d;simp only[d]
    split at h
    ·rename_i e;rw[if_pos e];exact go h
    ·rename_i e;rw[if_neg e];exact Ba l hk h
   ·rename_i d;simp only[d];exact Ba l hk h
   ·exact h.elim
theorem Aw{c:Array Oper}:∀(l:List Oper){i:Nat}{a:List Touch}{K b:St->Prop}{s:St},(∀s,K s->b s)->ke P an c l i a K s->gV P an c l i a b s
 |[],i,a,K,b,s,hk,h=>by simp only[ke]at h;simp only[gV];exact⟨h.1,hk s h.2⟩
 |o::l,i,a,K,b,s,hk,h=>by
  have go:ml P an o s (fun e=>ke P an c l (i+1) (gW i s.heap.length e a) K (e.app o.dst s))->kq P an o s (fun e=>gV P an c l (i+1) (gW i s.heap.length e a) b (e.app o.dst s)):=fun h=>by
   obtain⟨e,k,m⟩:=LJ o s _ (XU h);exact m _ (Aw l hk k)
  simp only[ke]at h;simp only[gV]
  split at h
  ·rename_i d;simp only[d];exact go h
  ·rename_i j n d;simp only[d]
   split at h
   ·rename_i t f;simp only[f]
    split at h
    ·rename_i g;rw[if_pos g];exact go h
    ·rename_i g;rw[if_neg g];exact Aw l hk h
   ·rename_i f;simp only[f];exact Aw l hk h
   ·exact h.elim
def BE(v:AV)(a b:St->Prop)(s:St):Prop:=
 match v with
 | .p (.bool t)=>if t then a s else b s
 |_=>False
def Sp(K:St->Prop)(Q:bE->St->Prop)(e:bE)(s:St):Prop:=
 match e with
 | .normal=>K s
 |e=>Q e s
def fH(P:da)(an:dq->Bool)(q:Cx):Code->(bE->St->Prop)->St->Prop
 | .skip,Q,s| .label _,Q,s=>Q .normal s
 | .region _ ops draw,Q,s=>if draw then ke P an ops ops.toList 0 [] (Q .normal) s else kx P an ops ops.toList (Q .normal) s
 | .seq a b,Q,s=>fH P an q a (Sp (fH P an q b Q) Q) s
 | .cond c a b,Q,s=>BE (ev s.env c) (fH P an q a Q) (fH P an q b Q) s
 | .block id b,Q,s=>fH P an q b (q8 id Q) s
 | .scope b,Q,s=>fH P an q b Q s
 | .loop b,Q,s=>∃I:Nat->St->Prop,(∃n t,df q.2 s t/\I n t)/\∀n t,I n t->fH P an q b (vD q.2 n I Q) t
 | .rangeFunc f d a b,Q,s=>q.2<=s.heap.length/\kg P (ev s.env f) s.heap.length (s.heap++[.loop ⟨.ready,none,q.1,d.toList,a,b,s.env⟩]) (iT s.heap.length s.env Q)
 | .exit id,Q,s=>Q (.exit id) s
 | .ret,Q,s=>Q .ret s
 |_,_,_=>False
theorem XZ{Q a:bE->St->Prop}(hq:∀e s,Q e s->a e s){j:Option Code}{s:St}(h:kI Q j s):kI a j s:=by
 unfold kI at h⊢
 split at h
 ·exact hq _ _ h
 ·exact hq _ _ h
 ·exact hq _ _ h
 ·exact h.elim
theorem Lq{Q a:bE->St->Prop}(hq:∀e s,Q e s->a e s){b:Nat}{env:Env}{H:ah}(h:iT b env Q H):iT b env a H:=by
 unfold iT at h⊢
 split at h
 ·exact⟨h.1,XZ hq h.2⟩
 ·exact h.elim
theorem Ln{e:AV}{b:Nat}{H:ah}{K d:ah->Prop}(hk:∀H,K H->d H)(h:kg P e b H K):kg P e b H d:=by
 unfold kg at h⊢
 split at h
 ·obtain⟨H',v,a,c⟩:=h;exact⟨H',v,a,hk _ c⟩
 ·obtain⟨H',v,a,c⟩:=h;exact⟨H',v,a,hk _ c⟩
 ·exact h.elim
theorem mV{q:Cx}:∀(c:Code){Q Q':bE->St->Prop}{s:St},(∀e s,Q e s->Q' e s)->fH P an q c Q s->cr P an q c Q' s
 | .skip,Q,Q',s,hq,h| .label _,Q,Q',s,hq,h=>by simp only[fH]at h;simp only[cr];exact hq _ _ h
 | .exit _,Q,Q',s,hq,h| .ret,Q,Q',s,hq,h=>by simp only[fH]at h;simp only[cr];exact hq _ _ h
 | .region id ops draw,Q,Q',s,hq,h=>by
  simp only[fH]at h;simp only[cr]
  split at h
  ·rename_i j;rw[if_pos j];exact Aw _ (hq _) h
  ·rename_i j;rw[if_neg j];exact Ba _ (hq _) h
 | .seq a b,Q,Q',s,hq,h=>by
  simp only[fH]at h;simp only[cr];refine mV a (fun e s d=>?_) h;cases e with
  |normal=>exact mV b hq d
  |exit id=>exact hq _ _ d
  |ret=>exact hq _ _ d
 | .cond c a b,Q,Q',s,hq,h=>by
  simp only[fH]at h;simp only[cr];unfold BE at h
  split at h
  ·rename_i t m;simp only[m]
   split at h
   ·rename_i g;rw[if_pos g];exact mV a hq h
   ·rename_i g;rw[if_neg g];exact mV b hq h
  ·exact h.elim
 | .block id b,Q,Q',s,hq,h=>by
  simp only[fH]at h;simp only[cr];refine mV b (fun e s d=>?_) h;cases e with
  |normal=>exact hq _ _ d
  |exit i=>
   simp only[q8]at d
   by_cases hi:i=id
   ·simp only[hi,if_true]at d⊢;exact hq _ _ d
   ·simp only[hi,if_false]at d⊢;exact hq _ _ d
  |ret=>exact hq _ _ d
 | .scope b,Q,Q',s,hq,h=>by simp only[fH]at h;simp only[cr];exact mV b hq h
 | .loop b,Q,Q',s,hq,h=>by
  simp only[fH]at h;simp only[cr];obtain⟨I,k,l⟩:=h;refine⟨I,k,fun n t hI=>mV b (fun e s d=>?_) (l n t hI)⟩;cases e with
  |normal=>exact d
  |exit id=>exact hq _ _ d
  |ret=>exact hq _ _ d
 | .rangeFunc f o a b,Q,Q',s,hq,h=>by
  simp only[fH]at h;simp only[cr];exact⟨h.1,s.env,fun _=>rfl,Ln (fun H=>Lq hq) h.2⟩
 | .goto _,_,_,_,_,h| .refuse _,_,_,_,_,h=>by simp[fH]at h
end
section
variable{P:da}{an:dq->Bool}{q:Cx}
def Qj(P:da)(an:dq->Bool)(b:Array Oper)(r:List Oper)(i:Nat)(a:List Touch)(K:St->Prop)(dst:Option Tmp)(s:St)(e:aY):Prop:=
 ke P an b r (i+1) (gW i s.heap.length e a) K (e.app dst s)
def ap2(P:da)(an:dq->Bool)(b:Array Oper)(o:Oper)(r:List Oper)(i:Nat)(a:List Touch)(K:St->Prop)(c:Bool)(s:St)(g:AV):Prop:=
 match g with
 | .p (.bool t)=>if t=c then ml P an o s (Qj P an b r i a K o.dst s)else ke P an b r (i+1) a K ⟨put o.dst (.p (.aD [])) s.env,s.heap⟩
 | .p (.aD [])=>ke P an b r (i+1) a K ⟨put o.dst (.p (.aD [])) s.env,s.heap⟩
 |_=>False
def apV(P:da)(an:dq->Bool)(a:Array Oper)(o:Oper)(r:List Oper)(K:St->Prop)(b:Bool)(s:St)(g:AV):Prop:=
 match g with
 | .p (.bool t)=>if t=b then nX P an o (kx P an a r K) s else kx P an a r K ⟨put o.dst (.p (.aD [])) s.env,s.heap⟩
 | .p (.aD [])=>kx P an a r K ⟨put o.dst (.p (.aD [])) s.env,s.heap⟩
 |_=>False
end
section
variable{P:da}
@[simp] theorem aNl{b:Bool}:aL (.bool b)=.leaf:=(rfl)
@[simp] theorem aNP{k:ea}{n:Int}:aL (.int k n)=.leaf:=(rfl)
@[simp] theorem aNU{l:List Nat}:aL (.str l)=.leaf:=(rfl)
@[simp] theorem aNQ:aL .aK=.leaf:=(rfl)
@[simp] theorem aNR{l:List PV}:aL (.seq l)=.leaf:=(rfl)
@[simp] theorem aNO{l:List (PV×PV)}:aL (.eJ l)=.leaf:=(rfl)
@[simp] theorem aNT{u:db}{fs:List PV}:aL (.st u fs)=.agg u:=(rfl)
@[simp] theorem aNi{v:PV}:ad (.p v)=aL v:=(rfl)
@[simp] theorem aNk{u:db}{fs:List AV}:ad (.st u fs)=.agg u:=(rfl)
@[simp] theorem aNj{b v e o l:Nat}:ad (.sl b v e o l)=.leaf:=(rfl)
@[simp] theorem aMc{u:db}{fs:List PV}:bW (.st u fs)=fs:=(rfl)
attribute [simp] kj xq lU xH Bl yM AH Bo Bp Al tU jL dR gf gN mA rE nu vr gk jc nj Xf XK Vn Wq Xs Vc VM W6 aP put jv ev ofConst bt gW iC pN fq l9 gJ iM eE Bn AU F1 kn AR zJ lT vX GH CD Bi zY AW Cm ye xG w8 wZ lenOf lJ iZ ni bP rG gS re oneOf fN
end
section
variable{P:da}{an:dq->Bool}
def sE:kz->kz->Bool
 | .leaf,.leaf=>true
 | .agg u,.agg v=>lq u v
 |_,_=>false
theorem jy{a b:kz}(h:sE a b=true):a=b/\b≠.bad:=by
 cases a<;>cases b<;>simp_all [sE]
def kE:AK->AK->Bool
 | .exact,.exact| .grow,.grow| .frozen,.frozen| .bytes,.bytes=>true
 |_,_=>false
def Gs:AK->Bool
 | .frozen=>false
 |_=>true
theorem aAi{k:AK}(h:Gs k=true):k≠.frozen:=by cases k<;>simp_all [Gs]
def Cp(k:AK)(a:List AV):Bool:=match k.gr,a with
 |true,[]=>false
 |_,_=>true
theorem Lw{k:AK}{a:List AV}(h:Cp k a=true):¬(k.gr=true/\a=[]):=by
 rintro⟨b,rfl⟩;simp[Cp,b]at h
theorem gv{a b:Nat}(h:lq a b=true):a=b:=Nat.eq_of_beq_eq_true h
theorem eh{a b:Nat}(h:lm a b=true):a<=b:=Nat.le_of_ble_eq_true h
def QF:ea->ea->Bool:=fun a b=>decide (a=b)
def yf(P:da)(l:List Nat):List (Nat×AV)->Bool
 |[]=>true
 |(i,v)::r=>(match l[i]? with
  |some n=>lq (bP P (ad v)) n&&(match ad v with
   | .bad=>false
   |_=>true)
  |none=>false)&&yf P l r
theorem DZ{l:List Nat}:∀{r:List (Nat×AV)},yf P l r=true->ni P l r
 |[],_=>trivial
 |(i,v)::r,h=>by
  simp only[yf,cx]at h;refine⟨?_,DZ h.2⟩;have a:=h.1
  split at a
  ·rename_i n hn;simp only[cx]at a;refine⟨n,hn,gv a.1,fun b=>?_⟩;rw[b]at a;simp at a
  ·simp at a
def s9(P:da)(sz:Nat):List AV->Bool
 |[]=>true
 |v::r=>(match ad v with
  | .bad=>false
  |s=>lq (bP P s) sz)&&s9 P sz r
theorem xI{sz:Nat}:∀{r:List AV},s9 P sz r=true->gf P sz r
 |[],_=>trivial
 |v::r,h=>by
  simp only[s9,cx]at h;refine⟨?_,xI h.2⟩;have a:=h.1
  split at a
  ·simp at a
  ·rename_i b;exact⟨b,gv a⟩
def Gp(P:da)(T:db)(H:ah)(a:AV):Option aY:=
 match a with
 | .ptr b path=>match H[b]? with
  |some (.box fz t)=>match fq t path with
   |some s=>bif sE (kindOf P T) (ad s)then some {v:=s,aA:=[(b,.box fz t)]}else none
   |none=>none
  |_=>none
 | .cm b aE al i path=>match H[b]? with
  |some (.arr k d c es)=>bif lq aE d&&lq al c then match es[i]? with
   |some x=>match fq x path with
    |some s=>bif sE (kindOf P T) (ad s)then some {v:=s,aA:=[(b,.arr k d c es)]}else none
    |none=>none
   |none=>none
   else none
  |_=>none
 | .p (.cE t)=>bif sE (kindOf P T) (aL t)then some {v:=.p t}else none
 |_=>none
theorem YW{T:db}{H:ah}{a:AV}{e:aY}{K:aY->Prop}(h:Gp P T H a=some e)(hk:K e):pV P T H a K:=by
 unfold Gp at h;unfold pV
 split at h
 ·split at h
  ·split at h
   ·rename_i hs;simp only[cy,mm,ms]at h;rename_i c _ _;obtain⟨b,rfl⟩:=h;simp only[c,hs];exact⟨(jy b).1,hk⟩
   ·simp at h
  ·simp at h
 ·split at h
  ·rename_i c;simp only[cy,mm,cx]at h;obtain⟨⟨b,d⟩,h⟩:=h
   split at h
   ·rename_i hx
    split at h
    ·rename_i hs;simp only[mm,ms]at h;obtain⟨f,rfl⟩:=h;obtain⟨hi,rfl⟩:=hQ.1 hx;simp only[c];refine⟨gv b,gv d,hi,?_⟩;simp only[hs];exact⟨(jy f).1,hk⟩
    ·simp at h
   ·simp at h
  ·simp at h
 ·simp only[cy,mm,ms]at h;obtain⟨b,rfl⟩:=h;exact⟨(jy b).1,hk⟩
 ·simp at h
def Fm(P:da)(T:db)(H:ah)(a x:AV):Option aY:=
 bif sE (kindOf P T) (ad x)then match a with
 | .ptr b path=>match H[b]? with
  |some (.box false t)=>match fq t path,gJ t path x with
   |some s,some d=>bif sE (ad s) (ad x)then some {v:=.p (.aD []),aA:=[(b,.box false t)],aO:=[(b,.box false d)]}else none
   |_,_=>none
  |_=>none
 | .cm b aE al i path=>match H[b]? with
  |some (.arr k e c es)=>bif lq aE e&&(lq al c&&Gs k)then match es[i]? with
   |some y=>match fq y path,gJ y path x with
    |some s,some d=>bif sE (ad s) (ad x)then some {v:=.p (.aD []),aA:=[(b,.arr k e c es)],aO:=[(b,.arr k e c (es.set i d))]}else none
    |_,_=>none
   |none=>none
   else none
  |_=>none
 |_=>none
 else none
theorem Xk{T:db}{H:ah}{a x:AV}{e:aY}{K:aY->Prop}(h:Fm P T H a x=some e)(hk:K e):pK P T H a x K:=by
 unfold Fm at h;unfold pK;simp only[cy,mm]at h;obtain⟨f,h⟩:=h;refine⟨(jy f).1,(jy f).2,?_⟩
 split at h
 ·split at h
  ·rename_i c
   split at h
   ·rename_i hs d;simp only[mm,ms]at h;obtain⟨b,rfl⟩:=h;simp only[c,hs,d];exact⟨(jy b).1,hk⟩
   ·simp at h
  ·simp at h
 ·split at h
  ·rename_i c;simp only[mm,cx]at h;obtain⟨⟨b,g,i⟩,h⟩:=h
   split at h
   ·rename_i k
    split at h
    ·rename_i hs d;simp only[mm,ms]at h;obtain⟨j,rfl⟩:=h;obtain⟨hi,rfl⟩:=hQ.1 k;simp only[c];refine⟨gv b,gv g,aAi i,hi,?_⟩;simp only[hs,d];exact⟨(jy j).1,hk⟩
    ·simp at h
   ·simp at h
  ·simp at h
 ·simp at h
def Gf(op:eb)(k:ea)(a b:Int):Option PV:=
 match op with
 | .add=>some (.int k (k.wrap (a+b)))
 | .sub=>some (.int k (k.wrap (a-b)))
 | .mul=>some (.int k (k.wrap (a*b)))
 | .quo=>match b with
  | .ofNat 0=>none
  |b=>some (.int k (k.wrap (a.tdiv b)))
 | .rem=>match b with
  | .ofNat 0=>none
  |b=>some (.int k (a.tmod b))
 | .and=>some (.int k (k.wrap (ck k.bits a&&&ck k.bits b).toNat))
 | .or=>some (.int k (k.wrap (ck k.bits a|||ck k.bits b).toNat))
 | .xor=>some (.int k (k.wrap (ck k.bits a^^^ck k.bits b).toNat))
 | .andNot=>some (.int k (k.wrap (ck k.bits a&&&~~~ck k.bits b).toNat))
 | .eql=>some (.bool (a==b))
 | .neq=>some (.bool (a !=b))
 | .lss=>some (.bool (decide (a<b)))
 | .leq=>some (.bool (decide (a<=b)))
 | .gtr=>some (.bool (decide (a>b)))
 | .geq=>some (.bool (decide (a>=b)))
 | .shl=>match b with
  | .ofNat _=>some (.int k (k.wrap (a*2^(min b.toNat k.bits))))
  |_=>none
 | .shr=>match b with
  | .ofNat _=>some (.int k (a.fdiv (2^(min b.toNat k.bits))))
  |_=>none
theorem ars{op:eb}{k:ea}{a b:Int}{v:PV}{K:PV->Prop}(h:Gf op k a b=some v)(hk:K v):rk op k a b K:=by
 cases op<;>simp only[Gf]at h<;>simp only[rk]
 case quo|rem=>
  split at h
  ·simp at h
  ·rename_i d;simp only[ms]at h;subst h;exact⟨fun c=>d (by rw[c];rfl),hk⟩
 case shl|shr=>
  split at h
  ·simp only[ms]at h;subst h;exact⟨hO _,hk⟩
  ·simp at h
 all_goals (simp only[ms]at h;subst h;exact hk)
def F0(P:da)(op:eb)(T:db)(c:Bool)(H:ah)(x y:AV):Option PV:=
 match x,y with
 | .p (.int k a),.p (.int d b)=>bif QF k d||(match op with
  | .shl| .shr=>true
  |_=>false)then Gf op k a b else none
 | .p (.str a),.p (.str b)=>match op with
  | .add=>bif lm (a.length+b.length) 9223372036854775807 then some (.str (a++b))else none
  | .eql=>some (.bool (a==b))
  | .neq=>some (.bool (!(a==b)))
  | .lss=>some (.bool (ka a b))
  | .leq=>some (.bool (ka a b||a==b))
  | .gtr=>some (.bool (!(ka a b||a==b)))
  | .geq=>some (.bool (!(ka a b)))
  |_=>none
 | .p (.bool a),.p (.bool b)=>bif sT P T then match op with
  | .eql=>some (.bool (a==b))
  | .neq=>some (.bool (!(a==b)))
  |_=>none
  else none
 | .p (.st u fs),.p (.st u' gs)=>bif tP P T then match iW P 9 T (.st u fs) (.st u' gs),op with
  |some r,.eql=>some (.bool r)
  |some r,.neq=>some (.bool !r)
  |_,_=>none
  else none
 |x,y=>match dF P T c y with
  |some k=>match cX H k x,op with
   |some r,.eql=>some (.bool r)
   |some r,.neq=>some (.bool !r)
   |_,_=>none
  |none=>none
theorem ZL{op:eb}{T:db}{c:Bool}{H:ah}{x y:AV}{v:PV}{K:PV->Prop}(h:F0 P op T c H x y=some v)(hk:K v):lM P op T c H x y K:=by
 unfold F0 at h;unfold lM
 split at h
 ·simp only[cy,mm,c9,QF,decide_eq_true_eq]at h;refine⟨?_,ars h.2 hk⟩;rcases h.1 with b|b
  ·exact .inl b
  ·cases op<;>simp at b<;>simp
 ·split at h<;>simp only[rj]
  ·simp only[cy,mm,ms]at h;obtain⟨b,rfl⟩:=h;exact⟨by have:=eh b;omega,hk⟩
  ·simp only[ms]at h;subst h;exact hk
  ·simp only[ms]at h;subst h;exact hk
  ·simp only[ms]at h;subst h;exact hk
  ·simp only[ms]at h;subst h;exact hk
  ·simp only[ms]at h;subst h;exact hk
  ·simp only[ms]at h;subst h;exact hk
  ·simp at h
 ·simp only[cy,mm]at h;refine⟨h.1,?_⟩;have a:=h.2
  split at a
  ·simp only[ms]at a;subst a;exact hk
  ·simp only[ms]at a;subst a;exact hk
  ·simp at a
 ·simp only[cy,mm]at h;refine⟨h.1,?_⟩;have a:=h.2
  split at a
  ·rename_i d;simp only[ms]at a;subst a;simp only[d];exact hk
  ·rename_i d;simp only[ms]at a;subst a;simp only[d];exact hk
  ·simp at a
 ·split at h
  case h_2=>simp at h
  rename_i k f;show lM P op T c H x y _;rw[L3 f];obtain⟨r,e,d⟩:∃r,cX H k x=some r/\((op=.eql/\v=.bool r)\/(op=.neq/\v=.bool !r)):=by
   revert h;generalize cX H k x=q;intro h;cases q with
   |none=>simp at h
   |some r=>cases op<;>simp at h<;>exact⟨r,rfl,by simp[h]⟩
  rw[e];rcases d with⟨rfl,rfl⟩|⟨rfl,rfl⟩<;>exact hk
def DQ(P:da)(T:db)(a:AV)(f:Nat):Option aY:=
 match eC P T with
 |some (u,n)=>bif lm (f+1) n then match a with
  | .ptr b path=>some {v:=.ptr b (path++[(u,f)])}
  | .cm b aE al i path=>some {v:=.cm b aE al i (path++[(u,f)])}
  | .p (.cE t)=>bif sE (aL t) (.agg u)then match(bW t)[f]? with
   |some g=>some {v:=.p (.cE g)}
   |none=>none
   else none
  |_=>none
  else none
 |_=>none
theorem Vh{T:db}{a:AV}{f:Nat}{e:aY}{K:aY->Prop}(h:DQ P T a f=some e)(hk:K e):pA P T a f K:=by
 unfold DQ at h;unfold pA
 split at h
 ·rename_i hs;simp only[cy,mm]at h;obtain⟨b,h⟩:=h;simp only[hs];refine⟨by have:=eh b;omega,?_⟩
  split at h
  ·simp only[ms]at h;subst h;exact hk
  ·simp only[ms]at h;subst h;exact hk
  ·simp only[mm]at h;obtain⟨c,h⟩:=h
   split at h
   ·rename_i d;simp only[ms]at h;subst h;simp only[d];exact⟨(jy c).1,hk⟩
   ·simp at h
  ·simp at h
 ·simp at h
def oE(a:Option Nat)(b:Nat):Bool:=match a with
 |some x=>lq x b
 |none=>false
theorem BI{a:Option Nat}{b:Nat}(h:oE a b=true):a=some b:=by
 unfold oE at h;split at h
 ·rw[gv h]
 ·simp at h
def DN(P:da)(T:db)(H:ah)(x i:AV):Option aY:=
 match i with
 | .p (.int _ (.ofNat i))=>match x with
  | .p (.cZ _ es)=>match es[i]? with
   |some y=>bif oE (dj P T) (bP P (aL y))then some {v:=.p (.cE y)}else none
   |none=>none
  | .p (.seq es)=>match es[i]? with
   |some y=>bif oE (dj P T) (bP P (aL y))then some {v:=.p (.cE y)}else none
   |none=>none
  | .sl b aE al off len=>bif oE (dj P T) al&&lm (i+1) len then match H[b]? with
   |some (.arr k c a es)=>bif lq aE c&&(lq al a&&Cp k es)then some {v:=.cm b aE al (off+i) [],aA:=[(b,.arr k c a es)]}else none
   |_=>none
   else none
  | .ptr b path=>match iJ P T with
   |some (u,n)=>bif lm (i+1) n then some {v:=.ptr b (path++[(u,i)])}else none
   |_=>none
  | .cm b aE al j path=>match iJ P T with
   |some (u,n)=>bif lm (i+1) n then some {v:=.cm b aE al j (path++[(u,i)])}else none
   |_=>none
  | .p (.cE t)=>match iJ P T with
   |some (u,n)=>bif sE (aL t) (.agg u)&&lm (i+1) n then match(bW t)[i]? with
    |some g=>some {v:=.p (.cE g)}
    |none=>none
    else none
   |_=>none
  |_=>none
 |_=>none
theorem Vq{T:db}{H:ah}{x i:AV}{e:aY}{K:aY->Prop}(h:DN P T H x i=some e)(hk:K e):pz P T H x i K:=by
 unfold DN at h;unfold pz
 split at h
 case h_2=>simp at h
 rename_i i;refine⟨hO _,?_⟩;simp only[Int.ofNat_eq_natCast,hP]
 split at h
 ·split at h
  ·rename_i y d;simp only[cy,mm,ms]at h;obtain⟨a,rfl⟩:=h;obtain⟨hi,rfl⟩:=hQ.1 d;exact⟨hi,BI a,hk⟩
  ·simp at h
 ·split at h
  ·rename_i y d;simp only[cy,mm,ms]at h;obtain⟨a,rfl⟩:=h;obtain⟨hi,rfl⟩:=hQ.1 d;exact⟨hi,BI a,hk⟩
  ·simp at h
 ·simp only[cy,mm,cx]at h;obtain⟨⟨a,c⟩,h⟩:=h;refine⟨BI a,by have:=eh c;omega,?_⟩
  split at h
  ·rename_i k;simp only[mm,ms]at h;obtain⟨⟨f,g,j⟩,rfl⟩:=h;simp only[k];exact⟨gv f,gv g,Lw j,hk⟩
  ·simp at h
 ·split at h
  ·rename_i b;simp only[cy,mm,ms]at h;obtain⟨a,rfl⟩:=h;simp only[b];exact⟨by have:=eh a;omega,hk⟩
  ·simp at h
 ·split at h
  ·rename_i b;simp only[cy,mm,ms]at h;obtain⟨a,rfl⟩:=h;simp only[b];exact⟨by have:=eh a;omega,hk⟩
  ·simp at h
 ·split at h
  ·rename_i b;simp only[cy,mm,cx]at h;obtain⟨⟨a,c⟩,h⟩:=h
   split at h
   ·rename_i l;simp only[ms]at h;subst h;simp only[b,l];exact⟨(jy a).1,by have:=eh c;omega,hk⟩
   ·simp at h
  ·simp at h
 ·simp at h
def Fe(P:da)(T X:db)(H:ah)(s x:AV):Option aY:=
 match dj P T,jL H x with
 |some sz,some xs=>bif je P X&&((cG P (fw P T)).isSome&&s9 P sz xs)then
  match s with
  | .p .aK=>match xs with
   |[]=>some {v:=s,aA:=dR H x}
   |y::r=>bif lm (y::r).length dc then some {v:=.sl H.length 0 sz 0 (y::r).length,aA:=dR H x,ba:=[.arr (gk P T) 0 sz (y::r)]}else none
  | .p (.cZ full es)=>bif s9 P sz (es.map .p)then match xs with
   |[]=>some {v:=s,aA:=dR H x}
   |y::r=>bif full&&lm (es.length+(y::r).length) dc then
    some {v:=.sl H.length 0 sz 0 (es.length+(y::r).length),aA:=dR H x,ba:=[.arr (gk P T) 0 sz (es.map .p++(y::r))]}else none
   else none
  | .sl b aE al off len=>match H[b]? with
   |some (.arr k c a es)=>bif lq aE c&&(lq al a&&(lq al sz&&lm (off+len) es.length))then
    match xs with
    |[]=>some {v:=s,aA:=(b,.arr k c a es)::dR H x}
    |y::r=>bif lm (es.length+(y::r).length) dc then match k with
     | .frozen=>none
     | .exact=>bif lm (off+len+(y::r).length) es.length then
      some {v:=.sl b aE al off (len+(y::r).length),aA:=(b,.arr .exact c a es)::dR H x,aO:=[(b,.arr .exact aE al (es.take (off+len)++(y::r)++es.drop (off+len+(y::r).length)))]}
      else some {v:=.sl H.length 0 sz 0 (len+(y::r).length),aA:=(b,.arr .exact c a es)::dR H x,ba:=[.arr (gk P T) 0 sz ((es.drop off).take len++(y::r))]}
     | .grow=>bif lq off 0 then some {v:=.sl b (aE+1) al 0 (len+(y::r).length),aA:=(b,.arr .grow c a es)::dR H x,aO:=[(b,.arr .grow (aE+1) al (es.take len++(y::r)))]}else none
     | .bytes=>bif lq off 0&&lq (fw P T) Gl.u8 then some {v:=.sl b (aE+1) al 0 (len+(y::r).length),aA:=(b,.arr .bytes c a es)::dR H x,aO:=[(b,.arr .bytes (aE+1) al (es.take len++(y::r)))]}else none
     else none
    else none
   |_=>none
  |_=>none
  else none
 |_,_=>none
theorem Ul{T X:db}{H:ah}{s x:AV}{e:aY}{K:aY->Prop}(h:Fe P T X H s x=some e)(hk:K e):pC P T X H s x K:=by
 unfold Fe at h;unfold pC
 split at h
 case h_2=>simp at h
 rename_i sz r n p;simp only[cy,mm,cx]at h;obtain⟨⟨g,j,k⟩,h⟩:=h;simp only[n,p];refine⟨g,j,xI k,?_⟩
 split at h
 ·split at h
  ·simp only[ms]at h;subst h;simpa using hk
  ·simp only[mm,ms]at h;obtain⟨a,rfl⟩:=h;simp only[jh,c6,if_false];exact⟨eh a,hk⟩
 ·simp only[mm]at h;obtain⟨a,h⟩:=h;refine⟨xI a,?_⟩
  split at h
  ·simp only[ms]at h;subst h;simpa using hk
  ·simp only[mm,ms]at h;obtain⟨⟨b,c⟩,rfl⟩:=h;simp only[jh,c6,if_false];exact⟨b,eh c,hk⟩
 ·split at h
  case h_2=>simp at h
  rename_i o;simp only[mm]at h;obtain⟨⟨a,b,c,l⟩,h⟩:=h;simp only[o];refine⟨gv a,gv b,gv c,eh l,?_⟩
  split at h
  ·simp only[ms]at h;subst h;simpa using hk
  ·simp only[mm]at h;obtain⟨m,h⟩:=h;simp only[jh,c6,if_false];refine⟨eh m,?_⟩
   split at h
   ·simp at h
   ·split at h
    ·rename_i f;simp only[ms]at h;subst h;simp only[eh f,if_true];exact hk
    ·rename_i f;simp only[ms]at h;subst h;rw[if_neg (fun q=>f (lv q))];exact hk
   ·simp only[mm,ms]at h;obtain⟨d,rfl⟩:=h;exact⟨gv d,(fun h=>by cases h),hk⟩
   ·simp only[mm,ms]at h;obtain⟨⟨d,i⟩,rfl⟩:=h;exact⟨gv d,fun _=>gv i,hk⟩
 ·simp at h
end
section
variable{P:da}{an:dq->Bool}
def mH(x:Option AV)(d:Nat):Option Nat:=
 match x with
 |none=>some d
 |some (.p (.int _ (.ofNat i)))=>some i
 |_=>none
theorem oc{x:Option AV}{d n:Nat}{K:Nat->Prop}(h:mH x d=some n)(hk:K n):ju x d K:=by
 unfold mH at h;unfold ju
 split at h
 ·simp only[ms]at h;subst h;exact hk
 ·simp only[ms]at h;subst h;exact⟨hO _,hk⟩
 ·simp at h
def Fp(P:da)(T:db)(H:ah)(x:AV)(lo hi:Option AV):Option aY:=
 match x with
  | .p (.str s)=>match mH hi s.length,mH lo 0 with
   |some h,some l=>bif jc P T&&(lm h s.length&&lm l h)then some {v:=.p (.str ((s.take h).drop l))}else none
   |_,_=>none
  | .p .aK=>match mH hi 0,mH lo 0 with
   |some h,some l=>bif (dj P T).isSome&&(lm h 0&&lm l h)then some {v:=x}else none
   |_,_=>none
  | .p (.cZ full es)=>match mH hi es.length,mH lo 0,dj P T with
   |some h,some l,some sz=>bif lm h es.length&&(lm l h&&s9 P sz (es.map .p))then some {v:=.p (.cZ (full&&h==es.length) ((es.take h).drop l))}else none
   |_,_,_=>none
  | .p (.seq es)=>match mH hi es.length,mH lo 0,dj P T with
   |some h,some l,some sz=>bif lm h es.length&&(lm l h&&s9 P sz (es.map .p))then some {v:=.p (.seq ((es.take h).drop l))}else none
   |_,_,_=>none
  | .sl b aE al off len=>match H[b]? with
   |some (.arr k c a es)=>match mH hi len,mH lo 0 with
    |some h,some l=>bif lq aE c&&(lq al a&&(oE (dj P T) al&&(Cp k es&&(lm (off+len) es.length&&(lm (off+h) es.length&&lm l h)))))then
     match l with
     |0=>some {v:=.sl b aE al off h,aA:=[(b,.arr k c a es)]}
     |d+1=>bif lq (d+1) h then some {v:=.p (.cZ false []),aA:=[(b,.arr k c a es)]}else some {v:=.sl b aE al (off+(d+1)) (h-(d+1)),aA:=[(b,.arr k c a es)]}
     else none
    |_,_=>none
   |_=>none
  |_=>none
theorem Xo{T:db}{H:ah}{x:AV}{lo hi:Option AV}{e:aY}{K:aY->Prop}(h:Fp P T H x lo hi=some e)(hk:K e):pL P T H x lo hi K:=by
 unfold Fp at h;unfold pL
 split at h
 ·split at h
  case h_2=>simp at h
  rename_i a b;simp only[cy,mm,cx,ms]at h;obtain⟨⟨c,d,f⟩,rfl⟩:=h;exact⟨c,oc a (oc b ⟨eh d,eh f,hk⟩)⟩
 ·split at h
  case h_2=>simp at h
  rename_i a b;simp only[cy,mm,cx,ms]at h;obtain⟨⟨c,d,f⟩,rfl⟩:=h;exact⟨c,oc a (oc b ⟨eh d,eh f,hk⟩)⟩
 ·split at h
  case h_2=>simp at h
  rename_i a b c;simp only[cy,mm,cx,ms]at h;obtain⟨⟨d,f,g⟩,rfl⟩:=h;refine oc a (oc b ⟨eh d,eh f,?_⟩);simp only[c];exact⟨xI g,hk⟩
 ·split at h
  case h_2=>simp at h
  rename_i a b c;simp only[cy,mm,cx,ms]at h;obtain⟨⟨d,f,g⟩,rfl⟩:=h;refine oc a (oc b ⟨eh d,eh f,?_⟩);simp only[c];exact⟨xI g,hk⟩
 ·split at h
  case h_2=>simp at h
  rename_i m
  split at h
  case h_2=>simp at h
  rename_i a b;simp only[cy,mm,cx]at h;obtain⟨⟨c,d,f,g,j,k,l⟩,h⟩:=h;simp only[m];refine⟨gv c,gv d,BI f,Lw g,eh j,oc a (oc b ⟨eh k,eh l,?_⟩)⟩
  split at h
  ·simp only[ms]at h;subst h;simpa using hk
  ·rw[if_neg o_]
   split at h
   ·rename_i i;simp only[ms]at h;subst h;rw[if_pos (gv i)];exact hk
   ·rename_i i;simp only[ms]at h;subst h;rw[if_neg (fun e=>i (by rw[<-e];exact me _))];exact hk
 ·simp at h
def BO(ok:Bool)(z:PV)(r:Option PV):PV:=
 match r with
 |some v=>bif ok then .aD [v,.bool true]else v
 |none=>bif ok then .aD [z,.bool false]else z
def NY(P:da)(T:db)(H:ah)(x i:AV)(ok:Bool):Option aY:=
 match mA P T,i with
 |some (a,E),.p key=>match cG P E with
  |some z=>bif gN P a key then match x with
   | .p .fM=>some {v:=.p (BO ok z none)}
   | .p (.eJ es)=>match gA P a es key with
    |some r=>some {v:=.p (BO ok z r)}
    |none=>none
   | .map b=>match H[b]? with
    |some (.map fz es)=>match gA P a es key with
     |some r=>some {v:=.p (BO ok z r),aA:=[(b,.map fz es)]}
     |none=>none
    |_=>none
   |_=>none
   else none
  |none=>none
 |_,_=>none
def NU(P:da)(T:db)(H:ah)(m k x:AV):Option aY:=
 match mA P T,m,k,x with
 |some (a,_),.map b,.p key,.p v=>bif gN P a key then match H[b]? with
  |some (.map false es)=>match nu P a es key with
   |some _=>some {v:=.p (.aD []),aA:=[(b,.map false es)],aO:=[(b,.map false (gM es key v))]}
   |none=>none
  |_=>none
  else none
 |_,_,_,_=>none
def RY(H:ah)(a:AV):Option aY:=
 match a with
 | .ptr b []=>match H[b]? with
  |some (.eL s pos)=>bif lm (pos+1) s.length then
   some {v:=.p (.aD [.bool true,.int .i64 pos,.int .i32 (hK (ib s) pos).1]),aA:=[(b,.eL s pos)],aO:=[(b,.eL s (pos+(hK (ib s) pos).2))]}
   else some {v:=.p (.aD [.bool false]),aA:=[(b,.eL s pos)]}
  |_=>none
 |_=>none
def MI(P:da)(H:ah)(b:Builtin)(c:Array db)(args:List AV):Option aY:=
 match b,args with
 | .len,[x]=>match lenOf H x with
  |some (n,aA)=>bif lJ P (c.getD 0 0) x&&lm 1 c.size then some {v:=.p (.int .i64 n),aA}else none
  |none=>none
 | .append,[s,x]=>bif lq c.size 2 then Fe P (c.getD 0 0) (c.getD 1 0) H s x else none
 | .min,.p (.int k a)::r=>match nj k false r a with
  |some n=>some {v:=.p (.int k n)}
  |none=>none
 | .max,.p (.int k a)::r=>match nj k true r a with
  |some n=>some {v:=.p (.int k n)}
  |none=>none
 |_,_=>none
def Cs(P:da)(an:dq->Bool)(o:Oper)(ρ:dp->AV)(H:ah):Option aY:=
 match o.op with
 | .move x| .assign x=>some {v:=ρ x}
 | .pick c a b=>match ρ c with
  | .p (.bool t)=>some {v:=bif t then ρ a else ρ b}
  |_=>none
 | .alloc T=>match cG P T with
  |some z=>bif sE (kindOf P T) (aL z)&&kn T (aL z)then some {v:=.ptr H.length [],ba:=[.box false (.p z)]}else none
  |none=>none
 | .box T x=>bif sE (kindOf P T) (ad (ρ x))&&kn T (ad (ρ x))then some {v:=.ptr H.length [],ba:=[.box false (ρ x)]}else none
 | .build T parts=>match kindOf P T,cG P T with
  | .agg u,some z=>match dw P u with
   |some l=>bif sE (aL z) (.agg u)&&yf P l (parts.toList.map fun(i,x)=>(i,ρ x))then some {v:=iM u (iZ ((bW z).map .p) (parts.toList.map fun(i,x)=>(i,ρ x)))}else none
   |none=>none
  |_,_=>none
 | .buildSlice T n parts=>match dj P T,cG P (fw P T)with
  |some sz,some z=>bif lq (bP P (aL z)) sz&&(lm (n*sz) 1000000&&yf P (hV n sz) (parts.toList.map fun(i,x)=>(i,ρ x)))then
   some {v:=.sl H.length 0 sz 0 n,ba:=[.arr .exact 0 sz (iZ (hV n (.p z)) (parts.toList.map fun(i,x)=>(i,ρ x)))]}else none
  |_,_=>none
 | .load T a=>Gp P T H (ρ a)
 | .store T a x=>Fm P T H (ρ a) (ρ x)
 | .binOp op T x y _=>match F0 P op T (rG y) H (ρ x) (ρ y)with
  |some v=>some {v:=.p v,aA:=dR H (ρ x)}
  |none=>none
 | .unOp op _ x=>match op,ρ x with
  | .not,.p (.bool b)=>some {v:=.p (.bool (!b))}
  | .neg,.p (.int k n)=>some {v:=.p (.int k (k.wrap (0-n)))}
  | .xor,.p (.int k n)=>some {v:=.p (.int k (k.wrap (ck k.bits (if k.signed then -1 else k.max)^^^ck k.bits n).toNat))}
  |_,_=>none
 | .convert S D x=>match P.underlying S,P.underlying D,ρ x with
  |some _,some (.int k),.p (.int _ n)=>some {v:=.p (.int k (k.wrap n))}
  |some _,some .string,.p (.str s)=>some {v:=.p (.str s)}
  |_,_,_=>none
 | .extract t i=>match ρ t with
  | .p (.aD vs)=>match vs[i]? with
   |some v=>some {v:=.p v}
   |none=>none
  | .aD vs=>match vs[i]? with
   |some v=>some {v}
   |none=>none
  |_=>none
 | .fieldAddr T a f=>DQ P T (ρ a) f
 | .indexAddr T x i=>DN P T H (ρ x) (ρ i)
 | .field T x f=>match kindOf P T,P.underlying T,ρ x with
  | .agg u,some (.struct _),.p t=>match(bW t)[f]?,(kC P u)[f]? with
   |some g,some F=>bif sE (aL t) (.agg u)&&sE (kindOf P F) (aL g)then some {v:=.p g}else none
   |_,_=>none
  |_,_,_=>none
 | .index T x i=>match ρ x,ρ i with
  | .p (.str s),.p (.int _ (.ofNat i))=>match s[i]? with
   |some c=>bif jc P T then some {v:=.p (.int .u8 c)}else none
   |none=>none
  | .p (.st u es),.p (.int _ (.ofNat i))=>match iJ P T,(kC P u)[i]?,es[i]? with
   |some (u',n),some F,some g=>bif lq u' u&&(lm (i+1) n&&sE (kindOf P F) (aL g))then some {v:=.p g}else none
   |_,_,_=>none
  |_,_=>none
 | .makeFunc (.func f) e d=>bif an f then match gz H (e.toList.map ρ),gz H (d.toList.map ρ)with
   |some (a,[],[]),some (b,aA,aO)=>some {v:=.p (.func f a b),aA,aO}
   |_,_=>none
  else match eE (e.toList.map ρ),eE (d.toList.map ρ)with
   |some a,some b=>some {v:=.p (.func f a b)}
   |_,_=>some {v:=.func f (e.toList.map ρ) (d.toList.map ρ)}
 | .makeSlice T l c=>match dj P T,cG P (fw P T),ρ l,ρ c with
  |some sz,some z,.p (.int .i64 (.ofNat l)),.p (.int .i64 (.ofNat c))=>bif lq (bP P (aL z)) sz&&(lq l c&&lm l dc)then
   some {v:=.sl H.length 0 sz 0 l,ba:=[.arr .exact 0 sz (hV l (.p z))]}else none
  |_,_,_,_=>none
 | .slice T x lo hi none=>Fp P T H (ρ x) (lo.map ρ) (hi.map ρ)
 | .makeMap _ none=>some {v:=.map H.length,ba:=[.map false []]}
 | .lookup T x i ok=>NY P T H (ρ x) (ρ i) ok
 | .mapUpdate T m k x| .insert T m k x=>NU P T H (ρ m) (ρ k) (ρ x)
 | .range T x=>match ρ x with
  | .p (.str s)=>bif jc P T then some {v:=.ptr H.length [],ba:=[.eL s 0]}else none
  |_=>none
 | .next it true=>RY H (ρ it)
 | .nilCheck x=>match ρ x with
  | .ptr _ _| .cm _ _ _ _ _| .p (.cE _)=>some {v:=ρ x}
  |_=>none
 | .call c=>match c.callee with
  | .builtin b=>MI P H b c.argTypes (c.args.toList.map ρ)
  |_=>none
 |_=>none
theorem O6{o:Oper}{ρ:dp->AV}{H:ah}{e:aY}{K:aY->Prop}(h:Cs P an o ρ H=some e)(hk:K e):gd P an o ρ H K:=by
 unfold Cs at h;unfold gd;cases U:o.op<;>simp only[U]at h<;>simp only
 case move|assign=>simp only[ms]at h;subst h;exact hk
 case pick c a b=>
  split at h
  ·rename_i t hc;simp only[ms]at h;subst h;simp only[hc];cases t<;>exact hk
  ·simp at h
 case alloc T=>
  split at h
  ·rename_i z hz;simp only[cy,mm,ms,cx]at h;obtain⟨⟨d,j⟩,rfl⟩:=h;simp only[hz];exact⟨(jy d).1,(jy d).2,j,hk⟩
  ·simp at h
 case box T x=>
  simp only[cy,mm,ms,cx]at h;obtain⟨⟨d,j⟩,rfl⟩:=h;exact⟨(jy d).1,(jy d).2,j,hk⟩
 case build T parts=>
  split at h
  ·rename_i u z V hz
   split at h
   ·rename_i l B;simp only[cy,mm,ms,cx]at h;obtain⟨⟨d,j⟩,rfl⟩:=h;simp only[V,hz,B];exact⟨(jy d).1,DZ j,hk⟩
   ·simp at h
  ·simp at h
 case buildSlice T n parts=>
  split at h
  ·rename_i sz z O hz;simp only[cy,mm,ms,cx]at h;obtain⟨⟨d,j,q⟩,rfl⟩:=h;simp only[O,hz];exact⟨gv d,eh j,DZ q,hk⟩
  ·simp at h
 case load T a=>exact YW h hk
 case store T a x=>exact Xk h hk
 case binOp op T x y X=>
  split at h
  ·rename_i v C;simp only[ms]at h;subst h;exact ZL (K:=fun v=>K {v:=.p v,aA:=dR H (ρ x)}) C hk
  ·simp at h
 case unOp op T x=>
  split at h
  all_goals first
   |(rename_i hx;simp only[ms]at h;subst h;simp only[hx];exact hk)
   |simp at h
 case convert S D x=>
  split at h
  ·rename_i d j q;simp only[ms]at h;subst h;simp only[d,j,q];exact hk
  ·rename_i d j q;simp only[ms]at h;subst h;simp only[d,j,q];exact hk
  ·simp at h
 case extract t i=>
  split at h
  ·rename_i N
   split at h
   ·rename_i C;simp only[ms]at h;subst h;simp only[N,C];exact hk
   ·simp at h
  ·rename_i N
   split at h
   ·rename_i C;simp only[ms]at h;subst h;simp only[N,C];exact hk
   ·simp at h
  ·simp at h
 case fieldAddr T a f=>exact Vh h hk
 case indexAddr T x i=>exact Vq h hk
 case field T x f=>
  split at h
  ·rename_i d j q
   split at h
   ·rename_i s w;simp only[cy,mm,ms,cx]at h;obtain⟨⟨G,I⟩,rfl⟩:=h;simp only[d,j,q,s,w];exact⟨(jy G).1,(jy I).1,hk⟩
   ·simp at h
  ·simp at h
 case index T x i=>
  split at h
  ·rename_i d j
   split at h
   ·rename_i c hc;simp only[cy,mm,ms]at h;obtain⟨q,rfl⟩:=h;obtain⟨hi,rfl⟩:=hQ.1 hc;simp only[d,j];exact⟨q,hO _,hi,hk⟩
   ·simp at h
  ·rename_i u aa ac i d j
   split at h
   ·rename_i u' n F g q s w;simp only[cy,mm,ms,cx]at h;obtain⟨⟨g1,g2,g3⟩,rfl⟩:=h;have e:(Int.ofNat i).toNat=i:=rfl;simp only[d,j,e,q,s,w];exact⟨gv g1,hO _,eh g2,(jy g3).1,hk⟩
   ·simp at h
  ·simp at h
 case makeFunc fn ab Z=>
  cases fn<;>simp only at h<;>try (simp at h;done)
  rename_i f;simp only;simp only[cy]at h
  split at h
  ·rename_i hf;rw[if_pos hf]
   split at h
   ·rename_i d j;simp only[ms]at h;subst h;simp only[d,j];exact hk
   ·simp at h
  ·rename_i hf;rw[if_neg hf]
   split at h
   ·rename_i d j;simp only[ms]at h;subst h;simp only[d,j];exact hk
   ·rename_i R;simp only[ms]at h;subst h
    split
    ·rename_i d j;exact(R _ _ d j).elim
    ·exact hk
 case makeSlice T l c=>
  split at h
  ·rename_i d j q s;simp only[cy,mm,ms,cx]at h;obtain⟨⟨w,G,I⟩,rfl⟩:=h;have e:=gv G;simp only[d,j,q,s];refine⟨gv w,hO _,by rw[e],?_,hk⟩;have:=eh I;show((_:Nat):Int)<=_
   exact_mod_cast this
  ·simp at h
 case slice T x lo hi W=>
  cases W with
  |none=>exact Xo h hk
  |some m=>simp at h
 case makeMap T r=>
  cases r<;>simp only at h
  ·simp only[ms]at h;subst h;exact hk
  ·simp at h
 case lookup T x i ok=>
  unfold NY at h
  split at h
  case h_2=>simp at h
  rename_i d j
  split at h
  case h_2=>simp at h
  rename_i z hz;simp only[cy,mm]at h;obtain⟨q,h⟩:=h;simp only[d,j,hz];refine⟨q,?_⟩
  have E:∀r:Option PV,BO ok z r=match r with
    |some v=>if ok=true then .aD [v,.bool true]else v
    |none=>if ok=true then .aD [z,.bool false]else z:=by
   intro r;cases r<;>cases ok<;>rfl
  split at h
  ·rename_i hx;simp only[ms]at h;subst h;simp only[hx];rw[E]at hk;exact hk
  ·rename_i hx
   split at h
   ·rename_i r M;simp only[ms]at h;subst h;rw[E]at hk;simp only[hx,M];cases r<;>exact hk
   ·simp at h
  ·rename_i hx
   split at h
   ·rename_i A
    split at h
    ·rename_i r M;simp only[ms]at h;subst h;rw[E]at hk;simp only[hx,A,M];cases r<;>exact hk
    ·simp at h
   ·simp at h
  ·simp at h
 case mapUpdate T m k x|insert T m k x=>
  unfold NU at h
  split at h
  case h_2=>simp at h
  rename_i d j q s;simp only[cy,mm]at h;obtain⟨w,h⟩:=h;simp only[d,j,q,s];refine⟨w,?_⟩
  split at h
  case h_2=>simp at h
  rename_i A
  split at h
  ·rename_i B;simp only[ms]at h;subst h;simp only[A,B];exact hk
  ·simp at h
 case range T x=>
  split at h
  ·rename_i hx;simp only[cy,mm,ms]at h;obtain⟨d,rfl⟩:=h;simp only[hx];exact⟨d,hk⟩
  ·simp at h
 case next it isStr=>
  cases isStr<;>simp only at h
  ·simp at h
  unfold RY at h
  split at h
  ·rename_i hx
   split at h
   ·rename_i A;simp only[hx,A];simp only[cy]at h
    split at h
    ·rename_i L;simp only[ms]at h;subst h;rw[if_pos (by have:=eh L;omega)];exact hk
    ·rename_i L;simp only[ms]at h;subst h;rw[if_neg (fun Q=>L (lv (Nat.succ_le_of_lt Q)))];exact hk
   ·simp at h
  ·simp at h
 case nilCheck x=>
  split at h
  all_goals first
   |(rename_i hx;simp only[ms]at h;subst h;simp only[hx]at hk⊢;exact hk)
   |simp at h
 case call c=>
  split at h
  case h_2=>simp at h
  rename_i b hc;simp only[hc];generalize c.args.toList.map ρ=args at*;generalize c.argTypes=Y at*;unfold MI at h
  split at h
  ·split at h
   ·rename_i B;simp only[cy,mm,ms,cx]at h;obtain⟨⟨d,j⟩,rfl⟩:=h;simp only[B];exact⟨d,eh j,hk⟩
   ·simp at h
  ·simp only[cy,mm]at h;exact⟨gv h.1,Ul h.2 hk⟩
  ·split at h
   ·rename_i J;simp only[ms]at h;subst h;simp only[J];exact hk
   ·simp at h
  ·split at h
   ·rename_i J;simp only[ms]at h;subst h;simp only[J];exact hk
   ·simp at h
  ·simp at h
 all_goals simp at h
end
end Go.az
namespace Go.az
variable[Gl]
section
variable(σ:Nat->Nat)
mutual
def cN:AV->AV
 | .p v=>.p v
 | .ptr b path=>.ptr (σ b) path
 | .cm b aE al i path=>.cm (σ b) aE al i path
 | .sl b aE al off len=>.sl (σ b) aE al off len
 | .map b=>.map (σ b)
 | .func f c a=>.func f (cU c) (cU a)
 | .st u fs=>.st u (cU fs)
 | .aD vs=>.aD (cU vs)
def cU:List AV->List AV
 |[]=>[]
 |v::vs=>cN v::cU vs
end
def vE:Env->Env
 |[]=>[]
 |(x,v)::r=>(x,cN σ v)::vE r
def dB:Obj->Obj
 | .box fz t=>.box fz (cN σ t)
 | .arr k aE al es=>.arr k aE al (cU σ es)
 | .loop L=>.loop {L with env:=vE σ L.env}
 |o=>o
end
section
variable{σ:Nat->Nat}
theorem ED:∀(e:Env)(x:Nat),aP (vE σ e) x=cN σ (aP e x)
 |[],_=>rfl
 |(y,v)::r,x=>by
  simp only[vE,aP]
  split
  ·rfl
  ·exact ED r x
theorem uF:∀l:List AV,(cU σ l).length=l.length
 |[]=>rfl
 |_::r=>by simp[cU,uF r]
theorem Za{l:List AV}:cU σ l=[]↔l=[]:=by cases l<;>simp[cU]
theorem pM{k:AK}{a:List AV}:dQ k (cU σ a)↔dQ k a:=by simp[dQ,Za]
theorem Oi{v:AV}:(cN σ v).tR↔v.tR:=by cases v<;>simp[cN,AV.tR]
theorem Yb{v:AV}:ad (cN σ v)=ad v:=by cases v<;>rfl
theorem Nn:∀{l:List AV},(∀e∈cU σ l,e.tR)↔∀e∈l,e.tR
 |[]=>by simp[cU]
 |v::r=>by simp[cU,Oi,Nn (l:=r)]
theorem sK{o:Obj}:(dB σ o).live↔o.live:=by cases o<;>simp[dB,Obj.live,pM]
theorem On{o:Obj}{v:Nat}:(dB σ o).has v↔o.has v:=by cases o<;>simp[dB,Obj.has]
theorem YC{o:Obj}:dB σ o=.hole↔o=.hole:=by cases o<;>simp[dB]
mutual
theorem Ei{S:Nat×Nat->Prop}:∀(v:AV),aH S (cN σ v)↔aH (fun x=>S (σ x.1,x.2)) v
 | .p _=>by simp[cN,aH]
 | .ptr _ _| .cm _ _ _ _ _| .sl _ _ _ _ _| .map _=>by simp[cN,aH]
 | .func _ b a=>by simp only[cN,aH];rw[uS b,uS a]
 | .st _ fs=>by simp only[cN,aH];exact uS fs
 | .aD vs=>by simp only[cN,aH];exact uS vs
theorem uS{S:Nat×Nat->Prop}:∀(l:List AV),aZ S (cU σ l)↔aZ (fun x=>S (σ x.1,x.2)) l
 |[]=>by simp[cU,aZ]
 |v::r=>by simp only[cU,aZ];rw[Ei v,uS r]
end
theorem XF{S:Nat×Nat->Prop}{o:Obj}:(dB σ o).refs S↔o.refs (fun x=>S (σ x.1,x.2)):=by
 cases o<;>simp only[dB,Obj.refs,Ei,uS,ED]
structure eX(σ:Nat->Nat)(eB:Bd)(H0:ah)(β:Bd)(H:ah):Prop where
 obj:∀(b:Nat)(o:Obj),H0[b]?=some o->H[σ b]?=some (dB σ o)
 aw:∀b,b<H0.length->β.aw (σ b)=eB.aw b/\β.cap (σ b)=eB.cap b
section
variable{P:da}{w:dx}{aa:Nat->Prop}{eB β:Bd}{H0 H:ah}
theorem eX.yO(h:eX σ eB H0 β H){k b:Nat}(a:b<H0.length):mR H k (σ b)↔mR H0 k b:=by
 have c:=h.obj b _ (hR a);have d:=hR a;unfold mR;rw[c,d];cases H0[b]<;>simp[dB,Obj.kd]
theorem eX.loop(h:eX σ eB H0 β H){b:Nat}(a:b<H0.length):ja H (σ b)↔ja H0 b:=by
 rw[<-uz,<-uz,h.yO a]
theorem eX.arr(h:eX σ eB H0 β H){b aE al:Nat}{k:AK}{es:List AV}(a:b<H0.length):iD H (σ b) aE al k es↔∃jC,iD H0 b aE al k jC/\es=cU σ jC:=by
 have c:=h.obj b _ (hR a);have d:=hR a;unfold iD;rw[c,d];cases H0[b]<;>simp[dB];constructor
 ·rintro⟨rfl,rfl,rfl,rfl⟩;exact⟨_,⟨rfl,rfl,rfl,rfl⟩,rfl⟩
 ·rintro⟨_,⟨rfl,rfl,rfl,rfl⟩,rfl⟩;exact⟨rfl,rfl,rfl,rfl⟩
theorem eX.Ge(h:eX σ eB H0 β H){x:Nat×Nat}(a:x.1<H0.length):aN H (σ x.1,x.2)↔aN H0 x:=by
 have b:=h.obj x.1 _ (hR a);have c:=hR a;unfold aN;rw[b,c];simp[On]
def Small(n:Nat):Nat×Nat->Prop:=fun x=>x.1<n
theorem eX.rL(h:eX σ eB H0 β H):∀{a:AV}{v:dl},aH (Small H0.length) a->(cg P β H (cN σ a) v↔cg P eB H0 a v)
 | .p _,_,_| .func _ _ _,_,_| .st _ _,_,_| .aD _,_,_=>by simp[cN,cg]
 | .ptr b path,v,c=>by
  simp only[aH,Small]at c;simp only[cN,cg,h.yO c,(h.aw b c).1]
 | .cm b aE al i path,v,c=>by
  simp only[aH,Small]at c;simp only[cN,cg,h.arr c,(h.aw b c).1];constructor
  ·rintro⟨aw,off,o,f,g,j⟩;exact⟨aw,off,o,f,g,fun k d e hn=>j k _ ⟨d,e,rfl⟩ (by rwa [pM])⟩
  ·rintro⟨aw,off,o,f,g,j⟩;refine⟨aw,off,o,f,g,?_⟩;rintro k _ ⟨d,e,rfl⟩ hn;exact j k d e (by rwa [pM]at hn)
 | .sl b aE al off len,v,c=>by
  simp only[aH,Small]at c;simp only[cN,cg,h.arr c,(h.aw b c).1,(h.aw b c).2];constructor
  ·intro l k d e;have:=l k _ ⟨d,e,rfl⟩;simpa only[uF,pM]using this
  ·rintro l k _ ⟨d,e,rfl⟩;have:=l k d e;simpa only[uF,pM]using this
 | .map b,v,c=>by
  simp only[aH,Small]at c;simp only[cN,cg,h.yO c,h.loop c,(h.aw b c).1]
mutual
theorem eX.OG(h:eX σ eB H0 β H):∀(a:AV)(cs:List dl),aH (Small H0.length) a->(bB P w aa β H (cN σ a) cs↔bB P w aa eB H0 a cs)
 | .p _,_,_=>by simp[cN,bB]
 | .aD _,_,_=>by simp[cN,bB]
 | .st u fs,cs,d=>by
  simp only[aH]at d;simp only[cN,bB];exact exists_congr fun l=>exists_congr fun e=>and_congr_right fun _=>and_congr_left fun _=>eX.BR h l fs e d
 | .func f k j,cs,d=>by
  simp only[aH]at d;simp only[cN,bB];exact exists_congr fun l=>exists_congr fun e=>and_congr (eX.tG h k l d.1) (and_congr_left fun _=>eX.tG h j e d.2)
 | .ptr b path,cs,d=>by
  have:=fun v=>h.rL (P:=P) (a:=.ptr b path) (v:=v) d;simp only[cN,bB,bX]at this⊢;simp only[this]
 | .cm b aE al i path,cs,d=>by
  have:=fun v=>h.rL (P:=P) (a:=.cm b aE al i path) (v:=v) d;simp only[cN,bB,bX]at this⊢;simp only[this]
 | .sl b aE al off len,cs,d=>by
  have:=fun v=>h.rL (P:=P) (a:=.sl b aE al off len) (v:=v) d;simp only[cN,bB,bX]at this⊢;simp only[this]
 | .map b,cs,d=>by
  have:=fun v=>h.rL (P:=P) (a:=.map b) (v:=v) d;simp only[cN,bB,bX]at this⊢;simp only[this]
theorem eX.BR(h:eX σ eB H0 β H):∀(g:List Nat)(l:List AV)(e:List (List dl)),aZ (Small H0.length) l->(bV P w aa β H g (cU σ l) e↔bV P w aa eB H0 g l e)
 |[],[],e,_=>by simp[cU,bV]
 |[],_::_,e,_=>by simp[cU,bV]
 |_::_,[],e,_=>by simp[cU,bV]
 |n::g,v::vs,e,d=>by
  simp only[aZ]at d;simp only[cU,bV];exact exists_congr fun c=>exists_congr fun cs=>and_congr_right fun _=>and_congr (eX.OG h v c d.1) (and_congr_right fun _=>eX.BR h g vs cs d.2)
theorem eX.FM(h:eX σ eB H0 β H):∀(a:AV)(v:dl),aH (Small H0.length) a->(aC P w aa β H (cN σ a) v↔aC P w aa eB H0 a v)
 | .p _,_,_=>by simp[cN,aC]
 | .aD vs,_,d=>by
  simp only[aH]at d;simp only[cN,aC];exact exists_congr fun l=>and_congr_left fun _=>eX.tG h vs l d
 | .st u fs,cs,d=>by
  simp only[aH]at d;simp only[cN,aC];exact exists_congr fun l=>exists_congr fun e=>and_congr_right fun _=>and_congr_left fun _=>eX.BR h l fs e d
 | .func f k j,cs,d=>by
  simp only[aH]at d;simp only[cN,aC];exact exists_congr fun l=>exists_congr fun e=>and_congr (eX.tG h k l d.1) (and_congr_left fun _=>eX.tG h j e d.2)
 | .ptr b path,v,d=>by
  have:=h.rL (P:=P) (a:=.ptr b path) (v:=v) d;simp only[cN,aC,bX]at this⊢;simp only[this]
 | .cm b aE al i path,v,d=>by
  have:=h.rL (P:=P) (a:=.cm b aE al i path) (v:=v) d;simp only[cN,aC,bX]at this⊢;simp only[this]
 | .sl b aE al off len,v,d=>by
  have:=h.rL (P:=P) (a:=.sl b aE al off len) (v:=v) d;simp only[cN,aC,bX]at this⊢;simp only[this]
 | .map b,v,d=>by
  have:=h.rL (P:=P) (a:=.map b) (v:=v) d;simp only[cN,aC,bX]at this⊢;simp only[this]
theorem eX.tG(h:eX σ eB H0 β H):∀(l:List AV)(vs:List dl),aZ (Small H0.length) l->(bK P w aa β H (cU σ l) vs↔bK P w aa eB H0 l vs)
 |[],vs,_=>by simp[cU,bK]
 |a::l,vs,d=>by
  simp only[aZ]at d;simp only[cU,bK];exact exists_congr fun y=>exists_congr fun m=>and_congr_right fun _=>and_congr (eX.FM h a y d.1) (eX.tG h l m d.2)
end
theorem eX.R8(h:eX σ eB H0 β H){ag Prot0:Nat->Prop}{b:Nat}{o:Obj}(e:H0[b]?=some o)(c:o.refs (Small H0.length))(a:o.live->∀fz,dD aa eB Prot0 fz b↔dD aa β ag fz (σ b)):
 fh P w aa β H ag (σ b) (dB σ o)↔fh P w aa eB H0 Prot0 b o:=by
 have f:b<H0.length:=(hQ.1 e).1;obtain⟨k1,k2⟩:=h.aw b f;cases o with
 |hole=>simp[dB,fh]
 |dead=>simp[dB,fh]
 |box fz t=>
  simp only[dB,fh,k1,<-a trivial,h.OG t _ c,Oi,Yb]
 |arr k aE al es=>
  simp only[dB,fh,k1,k2,pM,uF,Nn]
  by_cases hn:dQ k es
  ·simp[hn]
  ·simp only[hn,false_or,<-a hn,h.BR _ es _ c]
 |map fz es=>
  simp only[dB,fh,k1,<-a trivial]
 |eL s pos=>
  simp only[dB,fh,k1,<-a trivial]
 |loop L=>
  simp only[dB,fh,k1,<-a trivial,ED];exact exists_congr fun t=>exists_congr fun d=>exists_congr fun fn=>and_congr_right fun _=>and_congr_right fun _=>and_congr_left fun _=>forall_congr' fun x=>h.FM _ _ (c x)
end
end
end Go.az
namespace Go.az
variable[Gl]
def sig(bs:List Nat)(a i:Nat):Nat:=match bs[i]? with
 |some b=>b
 |none=>a+(i-bs.length)
theorem vg{bs:List Nat}{a i:Nat}(h:i<bs.length):sig bs a i=bs[i]:=by simp[sig,h]
theorem vh{bs:List Nat}{a i:Nat}(h:bs.length<=i):sig bs a i=a+(i-bs.length):=by simp[sig,h]
theorem aGx{bs:List Nat}{a:Nat}(e:bs.Nodup)(d:∀b∈bs,b<a){i j:Nat}(h:sig bs a i=sig bs a j):i=j:=by
 by_cases hi:i<bs.length<;>by_cases c:j<bs.length
 ·rw[vg hi,vg c]at h;exact(List.getElem_inj e).1 h
 ·rw[vg hi,vh o_]at h;have:=d _ (ky hi);omega
 ·rw[vh o_,vg c]at h;have:=d _ (ky c);omega
 ·rw[vh o_,vh o_]at h;omega
theorem sQ:∀{l:List (Nat×Obj)}{H:ah}{x:Nat},(∀p∈l,p.1≠x)->(bt H l)[x]?=H[x]?
 |[],_,_,_=>rfl
 |(b,o)::r,H,x,h=>by
  simp only[bt];rw[sQ (fun p a=>h p (by simp[a])),h0 (h (b,o) s_)]
theorem vA:∀{l:List (Nat×Obj)}{H:ah},(l.map (·.1)).Nodup->∀p∈l,p.1<H.length->(bt H l)[p.1]?=some p.2
 |[],_,_,_,h,_=>by simp at h
 |(b,o)::r,H,hn,p,a,c=>by
  simp only[hW,j0]at hn;simp only[bt];rcases hU.1 a with rfl|a
  ·rw[sQ (fun q hq d=>hn.1 (j4.2 ⟨q,hq,d⟩)),hS c]
  ·exact vA hn.2 p a (by simpa using c)
theorem D0(a:Nat):∀(l:List Obj),(newAt a l).map (·.1)=li a l.length
 |[]=>rfl
 |o::r=>by simp[newAt,D0 (a+1) r,kp]
theorem Lz:∀(l:List Obj)(a j:Nat)(h:j<l.length),(a+j,l[j])∈newAt a l
 |[],_,_,h=>by simp at h
 |o::r,a,0,h=>by simp[newAt]
 |o::r,a,j+1,h=>by
  have:=Lz r (a+1) j (by simpa using h);simp only[newAt,List.getElem_cons_succ,hU];right;have e:a+(j+1)=a+1+j:=o_
  rw[e];exact this
section
variable{P:da}{w w':dx}{aa aG ag:Nat->Prop}{β aM:Bd}{H H':ah}
theorem fh.mut{b:Nat}{o:Obj}(h:fh P w aa β H ag b o)(c:o.live)(hn:¬aa (β.aw b)):¬ag (β.aw b):=by
 obtain⟨fz,a,_⟩:=h.Gd c;cases fz with
 |true=>exact(hn a).elim
 |false=>exact a.2
theorem fh.carry(hi:∀k,aa k->aG k)(hs:∀k,aa k->w'.heap[k]?=w.heap[k]?)(aS:cK β H aM H'){b:Nat}{o:Obj}(f:o.refs (aN H))
 (c:o.live->w'.heap[β.aw b]?=w.heap[β.aw b]?/\aM.aw b=β.aw b/\aM.cap b=β.cap b)(held:o.live->∀fz,dD aa β ag fz b->dD aG aM ag fz b)(h:fh P w aa β H ag b o):fh P w' aG aM H' ag b o:=by
 refine h.move hi hs aS f (fun a=>(c a).2.2) fun fz a hf=>⟨?_,held a fz hf⟩
 obtain⟨d,e,_⟩:=c a;rw[e,d]
def dE(bs:List Nat)(a:Nat)(H0 b6:ah)(b:AV):aY:=
 {v:=cN (sig bs a) b,aA:=bs.zip (H0.map (dB (sig bs a))),aO:=bs.zip ((b6.take H0.length).map (dB (sig bs a))),ba:=(b6.drop H0.length).map (dB (sig bs a))}
open Classical in
theorem Lg{H0 b6:ah}{gB:List AV}{v0:AV}(bs:List Nat)(base:Nat)(hlen:bs.length=H0.length)(hnd:bs.Nodup)(hlt:∀b∈bs,b<base)
 (hl:H0.length<=b6.length)(ha:aZ (aN H0) gB)(ho:∀(b:Nat)(o:Obj),H0[b]?=some o->o.refs (aN H0))
 {H:ah}{w:dx}{aa ag:Nat->Prop}{β:Bd}{cargs:List dl}(hr:cj P w aa β H ag)(hargs:bK P w aa β H (cU (sig bs base) gB) cargs)
 (aA:∀p∈(dE bs base H0 b6 v0).aA,H[p.1]?=some p.2)(ba:∀i,i<(dE bs base H0 b6 v0).ba.length->H[base+i]?=some .hole):
 ∃(eB:Bd)(Prot0:Nat->Prop),(∀b,eB.aw b=β.aw (sig bs base b))/\cj P w aa eB H0 Prot0/\bK P w aa eB H0 gB cargs/\(∀b,b<H0.length->(ja H (sig bs base b)↔ja H0 b))/\
  ∀(cv:dl)(w':dx)(β0':Bd)(aG:Nat->Prop),cd P Prot0 aa w eB H0 aG w' β0' b6->aC P w' aG β0' b6 v0 cv->aH (aN b6) v0->
   ∃aM,cd P ag aa w β H aG w' aM (bt H ((dE bs base H0 b6 v0).aO++newAt base (dE bs base H0 b6 v0).ba))/\
    aC P w' aG aM (bt H ((dE bs base H0 b6 v0).aO++newAt base (dE bs base H0 b6 v0).ba)) (dE bs base H0 b6 v0).v cv/\
    aH (aN (bt H ((dE bs base H0 b6 v0).aO++newAt base (dE bs base H0 b6 v0).ba))) (dE bs base H0 b6 v0).v:=by
 obtain⟨σ,hσ⟩:∃σ,σ=sig bs base:=⟨_,rfl⟩
 have hinj:∀{i j},σ i=σ j->i=j:=fun{i j} h=>aGx hnd hlt (by rw[hσ]at h;exact h);have hold:∀{i}(hi:i<H0.length),σ i=bs[i]' o_:=fun hi=>by rw[hσ];exact vg _
 have hnw:∀{i},H0.length<=i->σ i=base+(i-H0.length):=fun hi=>by rw[hσ,vh o_,hlen]
 have hget:∀(b:Nat)(o:Obj),H0[b]?=some o->H[σ b]?=some (dB σ o):=by
  intro b o hb;obtain⟨hbl,rfl⟩:=hQ.1 hb;have:=aA (bs[b]' o_,dB (sig bs base) H0[b]) (by
   simp only[dE];rw[ii];exact⟨b,by simp;omega,s_⟩)
  rw[hold hbl,hσ];exact this
 have hnewH:∀i,H0.length<=i->i<b6.length->H[σ i]?=some .hole:=by
  intro i h1 h2;rw[hnw h1];exact ba (i-H0.length) (by simp[dE];omega)
 obtain⟨H2,hH2⟩:∃H2,H2=bt H ((dE bs base H0 b6 v0).aO++newAt base (dE bs base H0 b6 v0).ba):=⟨_,rfl⟩
 have hkeys:∀p∈(dE bs base H0 b6 v0).aO++newAt base (dE bs base H0 b6 v0).ba,∃i,i<b6.length/\p.1=σ i:=by
  intro p hp;rcases j1.1 hp with hp|hp
  ·simp only[dE]at hp;have hm:=(js hp).1;obtain⟨i,hi,he⟩:=ii.1 hm;exact⟨i,o_,by rw[hold o_];exact he.symm⟩
  ·have hm:p.1∈(newAt base (dE bs base H0 b6 v0).ba).map (·.1):=i6 hp
   rw[D0,km]at hm;simp only[dE,j2,kw]at hm;exact⟨H0.length+(p.1-base),o_,by rw[hnw o_];omega⟩
 have hndk:(((dE bs base H0 b6 v0).aO++newAt base (dE bs base H0 b6 v0).ba).map (·.1)).Nodup:=by
  rw[h8,D0];have e:(dE bs base H0 b6 v0).aO.map (·.1)=bs:=by
   simp only[dE];rw[List.map_fst_zip];simp;omega
  rw[e,List.nodup_append];refine⟨hnd,List.nodup_range',fun a h1 b h2 he=>?_⟩;subst he;have:=hlt _ h1;rw[km]at h2;omega
 have hA:∀(i:Nat)(o:Obj),b6[i]?=some o->H2[σ i]?=some (dB σ o):=by
  intro i o hi;obtain⟨hil,rfl⟩:=hQ.1 hi
  by_cases hi0:i<H0.length
  ·have hm:(bs[i]' o_,dB (sig bs base) b6[i])∈(dE bs base H0 b6 v0).aO++newAt base (dE bs base H0 b6 v0).ba:=by
    refine List.mem_append_left _ ?_;simp only[dE];rw[ii];exact⟨i,by simp;omega,s_⟩
   have:=vA (H:=H) hndk _ hm (by
    have:=hget i _ (hR hi0);rw[hold hi0]at this;exact(hQ.1 this).1)
   rw[hH2,hold hi0,this,hσ]
  ·have hm:(base+(i-H0.length),dB (sig bs base) b6[i])∈(dE bs base H0 b6 v0).aO++newAt base (dE bs base H0 b6 v0).ba:=by
    refine j6 _ ?_;have:=Lz (dE bs base H0 b6 v0).ba base (i-H0.length) (by simp[dE];omega);have e:(dE bs base H0 b6 v0).ba[i-H0.length]'(by simp[dE];omega)=dB (sig bs base) b6[i]:=by
     simp only[dE,List.getElem_map,List.getElem_drop];congr 2;omega
    rw[e]at this;exact this
   have:=vA (H:=H) hndk _ hm (by
    have:=hnewH i o_ hil;rw[hnw o_]at this;exact(hQ.1 this).1)
   rw[hH2,hnw o_,this,hσ]
 have hB:∀x,(∀i,i<b6.length->σ i≠x)->H2[x]?=H[x]?:=by
  intro x hx;rw[hH2];refine sQ fun p hp=>?_;obtain⟨i,h1,h2⟩:=hkeys p hp;rw[h2];exact hx i h1
 let eB:Bd:=⟨fun b=>β.aw (σ b),fun b=>β.cap (σ b)⟩
 let Prot0:Nat->Prop:=fun k=>ag k\/∃x o,H[x]?=some o/\o.live/\(∀i,i<H0.length->σ i≠x)/\β.aw x=k
 have hemb:eX σ eB H0 β H:=⟨hget,fun b _=>⟨rfl,rfl⟩⟩
 have small:∀x:Nat×Nat,aN H0 x->Small H0.length x:=fun x⟨o,ho,_⟩=>(hQ.1 ho).1;have held0:∀{b:Nat}{o:Obj},H0[b]?=some o->o.live->∀fz,dD aa eB Prot0 fz b↔dD aa β ag fz (σ b):=by
  intro b o hb hlv fz;cases fz with
  |true=>simp[dD,eB]
  |false=>
   simp only[dD,c6,if_false];refine and_congr_right fun hni=>⟨fun h hp=>h (.inl hp),fun h hp=>?_⟩
   rcases hp with hp|⟨x,o',h1,h2,h3,h4⟩
   ·exact h hp
   ·exact h3 b (hQ.1 hb).1 (hr.inj _ _ _ _ (hget b o hb) h1 (sK.2 hlv) h2 hni h4.symm)
 have hr0:cj P w aa eB H0 Prot0:=by
  refine⟨fun b o hb=>?_,fun b b' o o' h1 h2 l1 l2 hni he=>?_,ho,hr.b8,fun k hk=>?_,hr.ks⟩
  ·exact(hemb.R8 hb (Obj.pT small (ho b o hb)) (held0 hb)).1 (hr.du _ _ (hget b o hb))
  ·exact hinj (hr.inj _ _ _ _ (hget b o h1) (hget b' o' h2) (sK.2 l1) (sK.2 l2) hni he)
  ·rcases hk with hk|⟨x,o,h1,h2,_,rfl⟩
   ·exact hr.fg k hk
   ·exact hr.pO h1 h2
 have hargs0:bK P w aa eB H0 gB cargs:=by
  rw[<-hσ]at hargs;exact(hemb.tG _ _ (aZ.mono small _ ha)).1 hargs
 refine⟨eB,Prot0,fun b=>by rw[<-hσ],hr0,hargs0,fun b hb=>by rw[<-hσ];exact hemb.loop hb,fun cv w' β0' aG hp hv hvr=>?_⟩
 let aM:Bd:=⟨fun x=>if h:∃i,i<b6.length/\σ i=x then β0'.aw h.choose else β.aw x,fun x=>if h:∃i,i<b6.length/\σ i=x then β0'.cap h.choose else β.cap x⟩
 have hβ:∀i,i<b6.length->aM.aw (σ i)=β0'.aw i/\aM.cap (σ i)=β0'.cap i:=by
  intro i hi;have hex:∃j,j<b6.length/\σ j=σ i:=⟨i,hi,rfl⟩
  have hc:hex.choose=i:=hinj hex.choose_spec.2;simp only[aM,dif_pos hex,hc,and_self]
 have hβn:∀x,(∀i,i<b6.length->σ i≠x)->aM.aw x=β.aw x/\aM.cap x=β.cap x:=by
  intro x hx;have hnex:¬∃i,i<b6.length/\σ i=x:=fun⟨i,h1,h2⟩=>hx i h1 h2;simp only[aM,dif_neg hnex,and_self]
 have hemb':eX σ β0' b6 aM H2:=⟨hA,fun b hb=>hβ b hb⟩
 have small':∀x:Nat×Nat,aN b6 x->Small b6.length x:=fun x⟨o,ho,_⟩=>(hQ.1 ho).1;have split:∀x,(∃i,i<b6.length/\σ i=x)\/∀i,i<b6.length->σ i≠x:=by
  intro x
  by_cases hx:∃i,i<b6.length/\σ i=x
  ·exact .inl hx
  ·exact .inr fun i h1 h2=>hx ⟨i,h1,h2⟩
 have inOld:∀{i v},i<b6.length->aN H (σ i,v)->aN H0 (i,v)/\i<H0.length:=by
  intro i v hi ⟨o,h1,h2⟩
  by_cases hi0:i<H0.length
  ·refine⟨?_,hi0⟩;have:=hget i _ (hR hi0);simp only at h1;rw[this]at h1;cases h1;exact⟨_,hR hi0,On.1 h2⟩
  ·have:=hnewH i o_ hi;simp only at h1;rw[this]at h1;cases h1;exact h2.elim
 have iH:cK β H aM H2:=by
  refine⟨?_,?_⟩
  ·intro k b hb hlv;rcases split b with⟨i,hi,rfl⟩|hx
   ·obtain⟨k1,k2⟩:=inOld hi hb;obtain⟨g1,g2⟩:=hp.step.obj k i k1 ((hemb'.yO hi).1 hlv);exact⟨(hemb.yO k2).2 g1,(hβ i hi).1.trans g2⟩
   ·unfold mR at hlv⊢;rw[hB b hx]at hlv;exact⟨hlv,(hβn b hx).1⟩
  ·intro b aE al k es hb hlv;rcases split b with⟨i,hi,rfl⟩|hx
   ·obtain⟨k1,k2⟩:=inOld hi hb;obtain⟨jC,g0,rfl⟩:=(hemb'.arr hi).1 hlv;obtain⟨k0,es1,g1,g2,g3,g4⟩:=hp.step.arr i aE al k jC k1 g0;refine⟨k0,cU σ es1,(hemb.arr k2).2 ⟨_,g1,rfl⟩,by rw[uF,uF];exact g2,by rw[pM,pM];exact g3,fun hn=>?_⟩;rw[pM]at hn;rw[(hβ i hi).1,(hβ i hi).2];exact g4 hn
   ·unfold iD at hlv⊢;rw[hB b hx]at hlv;exact⟨k,es,hlv,ll _,Iff.rfl,fun _=>hβn b hx⟩
 have hinn:∀x,aN H x->aN H2 x:=by
  rintro⟨b,v⟩ hb;rcases split b with⟨i,hi,rfl⟩|hx
  ·obtain⟨k1,_⟩:=inOld hi hb;exact(hemb'.Ge (x:=(i,v)) hi).2 (hp.ir _ k1)
  ·obtain⟨o,h1,h2⟩:=hb;exact⟨o,by simp only;rw[hB b hx];exact h1,h2⟩
 have prot0:∀{x:Nat}{o:Obj},(∀i,i<b6.length->σ i≠x)->H[x]?=some o->o.live->Prot0 (β.aw x):=by
  intro x o hx h1 h2;exact .inr ⟨x,o,h1,h2,fun i hi=>hx i o_,rfl⟩
 have mut':∀{i:Nat}{o:Obj},b6[i]?=some o->o.live->¬aG (β0'.aw i)->¬Prot0 (β0'.aw i):=by
  intro i o h1 h2 h3;exact(hp.rel.du i o h1).mut h2 h3
 have hrel:cj P w' aG aM H2 ag:=by
  refine⟨fun x o hx=>?_,fun x x' o o' h1 h2 l1 l2 hni he=>?_,fun x o hx=>?_,hp.rel.b8,fun k hk=>hp.rel.fg k (.inl hk),hp.rel.ks⟩
  ·rcases split x with⟨i,hi,rfl⟩|hn
   ·have hg:=hA i _ (hR hi);rw[hg]at hx;cases hx;refine(hemb'.R8 (Prot0:=Prot0) (hR hi) (Obj.pT small' (hp.rel.refs i _ (hR hi))) (fun hlv fz=>?_)).2 (hp.rel.du i _ (hR hi));cases fz with
    |true=>simp[dD,(hβ i hi).1]
    |false=>
     simp only[dD,c6,if_false,(hβ i hi).1];exact⟨fun h=>⟨h.1,fun hp=>h.2 (.inl hp)⟩,fun h=>⟨h.1,mut' (hR hi) hlv h.1⟩⟩
   ·rw[hB x hn]at hx;refine fh.carry hp.b8 (fun k hk=>hp.ext.same k (.inr hk)) iH (hr.refs x o hx) (fun hlv=>⟨hp.ext.same _ (.inl (prot0 hn hx hlv)),hβn x hn⟩) (fun hlv fz hh=>?_) (hr.du x o hx);have hp0:=prot0 hn hx hlv;cases fz with
    |true=>
     simp only[dD,if_true]at hh⊢;rw[(hβn x hn).1];exact hp.b8 _ hh
    |false=>
     simp only[dD,c6,if_false]at hh⊢;rw[(hβn x hn).1];exact⟨fun hi=>(hp.fresh _ hi).elim hh.1 (fun h=>h hp0),hh.2⟩
  ·rcases split x with⟨i,hi,rfl⟩|hn<;>rcases split x' with⟨j,hj,rfl⟩|hn'
   ·have g1:=hA i _ (hR hi);have g2:=hA j _ (hR hj);rw[g1]at h1;cases h1;rw[g2]at h2;cases h2;rw[(hβ i hi).1,(hβ j hj).1]at he;rw[(hβ i hi).1]at hni;rw[hp.rel.inj i j _ _ (hR hi) (hR hj) (sK.1 l1) (sK.1 l2) hni he]
   ·have g1:=hA i _ (hR hi);rw[g1]at h1;cases h1;rw[hB x' hn']at h2;rw[(hβ i hi).1,(hβn x' hn').1]at he;rw[(hβ i hi).1]at hni;exact(mut' (hR hi) (sK.1 l1) hni (he▸prot0 hn' h2 l2)).elim
   ·have g2:=hA j _ (hR hj);rw[g2]at h2;cases h2;rw[hB x hn]at h1;rw[(hβ j hj).1,(hβn x hn).1]at he;rw[(hβn x hn).1]at hni;exact(mut' (hR hj) (sK.1 l2) (he▸hni) (he▸prot0 hn h1 l1)).elim
   ·rw[hB x hn]at h1;rw[hB x' hn']at h2;rw[(hβn x hn).1,(hβn x' hn').1]at he;rw[(hβn x hn).1]at hni;exact hr.inj _ _ _ _ h1 h2 l1 l2 (fun hi=>hni (hp.b8 _ hi)) he
  ·rcases split x with⟨i,hi,rfl⟩|hn
   ·have hg:=hA i _ (hR hi);rw[hg]at hx;cases hx;rw[XF];exact Obj.pT (fun y hy=>(hemb'.Ge (small' y hy)).2 hy) (hp.rel.refs i _ (hR hi))
   ·rw[hB x hn]at hx;exact Obj.pT hinn (hr.refs x o hx)
 refine⟨aM,?_,?_,?_⟩
 ·rw[<-hH2];refine⟨hp.b8,fun k hk=>(hp.fresh k hk).imp id (fun h h'=>h (.inl h')),⟨hp.ext.size,fun k hk=>hp.ext.same k (hk.imp .inl id),hp.ext.io⟩,iH,hrel,hinn,fun b hb=>?_⟩;rcases split b with⟨i,hi,rfl⟩|hx
  ·by_cases hi0:i<H0.length
   ·exact(hemb'.loop hi).2 (hp.loop i ((hemb.loop hi0).1 hb))
   ·obtain⟨L,hL⟩:=hb;rw[hnewH i o_ hi]at hL;cases hL
  ·unfold ja at hb⊢;rw[hB b hx];exact hb
 ·rw[<-hH2];show aC P w' aG aM H2 (cN (sig bs base) v0) cv;rw[<-hσ];exact(hemb'.FM _ _ (aH.mono small' _ hvr)).2 hv
 ·rw[<-hH2];show aH (aN H2) (cN (sig bs base) v0);rw[<-hσ,Ei];exact aH.mono (fun y hy=>(hemb'.Ge (small' y hy)).2 hy) _ hvr
theorem c8.frame{f:dq}{H0 b6:ah}{gB:List AV}{d:AV}(h:c8 P f H0 gB b6 d)(bs:List Nat)(a:Nat)(q:bs.length=H0.length)(s:bs.Nodup)(r:∀b∈bs,b<a)
 (p:H0.length<=b6.length)(c:aZ (aN H0) gB)(t:∀(b:Nat)(o:Obj),H0[b]?=some o->o.refs (aN H0)):
 tD P f (cU (sig bs a) gB) a (dE bs a H0 b6 d):=by
 refine⟨h.1,fun H w aa ag β l v m _ aA ba=>?_⟩;obtain⟨eB,g,-,x,n,-,back⟩:=Lg bs a q s r p c t v m aA ba;refine(h.2 w aa g eB l x n c).mono ?_;rintro e w' ⟨cv,A,aG,rfl,u,y,z⟩;obtain⟨aM,i,j,k⟩:=back cv w' A aG u y z;exact⟨cv,aM,aG,rfl,i,j,k⟩
theorem fQ.frame{b:Nat}{H0 b6:ah}{gB:List AV}{g:AV}(h:fQ P b H0 gB b6 g)(bs:List Nat)(a:Nat)(v:bs.length=H0.length)(z:bs.Nodup)(y:∀b∈bs,b<a)
 (u:H0.length<=b6.length)(e:aZ (aN H0) gB)(A:∀(b:Nat)(o:Obj),H0[b]?=some o->o.refs (aN H0)):
 pY P (sig bs a b) (cU (sig bs a) gB) a (dE bs a H0 b6 g):=by
 intro H w aa ag β n C q _ aA ba;obtain⟨eB,i,s,D,r,x,back⟩:=Lg bs a v z y u e A C q aA ba;have t:b<H0.length:=by
  obtain⟨L,p⟩:=h.1;exact(hQ.1 p).1
 refine⟨(x b t).2 h.1,?_⟩;obtain⟨f,tmps,assign,body,c,d⟩:=h.2 w aa i eB n D r e;rw[s]at c d;refine⟨f,tmps,assign,body,c,fun m G=>?_⟩;obtain⟨cv,w',I,aG,g1,B,E,F⟩:=d m G;obtain⟨aM,j,k,l⟩:=back cv w' I aG B E F;exact⟨cv,w',aM,aG,g1,j,k,l⟩
end
end Go.az
namespace Go.az
variable[Gl]
def lY(b:Nat):List Nat->Nat->Option Nat
 |[],_=>none
 |x::r,i=>bif lq x b then some i else lY b r (i+1)
theorem Nq{b:Nat}:∀{l:List Nat}{i j:Nat},lY b l i=some j->i<=j/\l[j-i]?=some b
 |[],_,_,h=>by simp[lY]at h
 |x::r,i,j,h=>by
  simp only[lY]at h;cases a:lq x b
  ·simp only[a,cond_false]at h;obtain⟨d,c⟩:=Nq h;refine⟨o_,?_⟩;have e:j-i=(j-(i+1))+1:=by omega
   rw[e,List.getElem?_cons_succ];exact c
  ·simp only[a,cond_true,ms]at h;subst h;simp[gv a]
section
variable(bs:List Nat)
mutual
def nB:AV->Option AV
 | .p v=>some (.p v)
 | .ptr b path=>match lY b bs 0 with
  |some i=>some (.ptr i path)
  |none=>none
 | .cm b aE al i path=>match lY b bs 0 with
  |some j=>some (.cm j aE al i path)
  |none=>none
 | .sl b aE al off len=>match lY b bs 0 with
  |some j=>some (.sl j aE al off len)
  |none=>none
 | .map b=>match lY b bs 0 with
  |some j=>some (.map j)
  |none=>none
 | .func f d c=>match oy d,oy c with
  |some a,some b=>some (.func f a b)
  |_,_=>none
 | .st u fs=>match oy fs with
  |some a=>some (.st u a)
  |none=>none
 | .aD vs=>match oy vs with
  |some a=>some (.aD a)
  |none=>none
def oy:List AV->Option (List AV)
 |[]=>some []
 |v::r=>match nB v,oy r with
  |some a,some b=>some (a::b)
  |_,_=>none
end
def Fk:Obj->Option Obj
 | .box fz t=>match nB bs t with
  |some a=>some (.box fz a)
  |none=>none
 | .arr k aE al es=>match oy bs es with
  |some a=>some (.arr k aE al a)
  |none=>none
 | .map fz es=>some (.map fz es)
 | .eL s n=>some (.eL s n)
 | .dead=>some .dead
 |_=>none
def x9(H:ah):List Nat->Option ah
 |[]=>some []
 |b::r=>match H[b]? with
  |some o=>match Fk bs o,x9 H r with
   |some a,some t=>some (a::t)
   |_,_=>none
  |none=>none
end
section
variable{bs:List Nat}{base:Nat}
theorem A3{b i:Nat}(h:lY b bs 0=some i):sig bs base i=b:=by
 have:=(Nq h).2;simp only[l5]at this;simp[sig,this]
mutual
theorem Mp:∀{a c:AV},nB bs a=some c->cN (sig bs base) c=a
 | .p v,c,h=>by simp only[nB,ms]at h;subst h;rfl
 | .ptr b path,c,h=>by
  simp only[nB]at h
  split at h
  ·rename_i i hi;simp only[ms]at h;subst h;simp only[cN,A3 hi]
  ·simp at h
 | .cm b aE al i path,c,h=>by
  simp only[nB]at h
  split at h
  ·rename_i i hi;simp only[ms]at h;subst h;simp only[cN,A3 hi]
  ·simp at h
 | .sl b aE al off len,c,h=>by
  simp only[nB]at h
  split at h
  ·rename_i i hi;simp only[ms]at h;subst h;simp only[cN,A3 hi]
  ·simp at h
 | .map b,c,h=>by
  simp only[nB]at h
  split at h
  ·rename_i i hi;simp only[ms]at h;subst h;simp only[cN,A3 hi]
  ·simp at h
 | .func f k j,c,h=>by
  simp only[nB]at h
  split at h
  ·rename_i a b d g;simp only[ms]at h;subst h;simp only[cN,su d,su g]
  ·simp at h
 | .st u fs,c,h=>by
  simp only[nB]at h
  split at h
  ·rename_i a d;simp only[ms]at h;subst h;simp only[cN,su d]
  ·simp at h
 | .aD vs,c,h=>by
  simp only[nB]at h
  split at h
  ·rename_i a d;simp only[ms]at h;subst h;simp only[cN,su d]
  ·simp at h
theorem su:∀{l e:List AV},oy bs l=some e->cU (sig bs base) e=l
 |[],e,h=>by simp only[oy,ms]at h;subst h;rfl
 |v::r,e,h=>by
  simp only[oy]at h
  split at h
  ·rename_i a b d g;simp only[ms]at h;subst h;simp only[cU,Mp d,su g]
  ·simp at h
end
theorem Xg{o c:Obj}(h:Fk bs o=some c):dB (sig bs base) c=o:=by
 cases o<;>simp only[Fk]at h
 case box fz t=>
  split at h
  ·rename_i a b;simp only[ms]at h;subst h;simp only[dB,Mp b]
  ·simp at h
 case arr k aE al es=>
  split at h
  ·rename_i a b;simp only[ms]at h;subst h;simp only[dB,su b]
  ·simp at h
 case hole=>simp at h
 case loop=>simp at h
 all_goals (simp only[ms]at h;subst h;rfl)
theorem Lj{H:ah}:∀{l:List Nat}{H0:ah},x9 bs H l=some H0->H0.length=l.length/\∀p∈l.zip (H0.map (dB (sig bs base))),H[p.1]?=some p.2
 |[],H0,h=>by simp only[x9,ms]at h;subst h;simp
 |b::r,H0,h=>by
  simp only[x9]at h
  split at h
  case h_2=>simp at h
  rename_i o f
  split at h
  case h_2=>simp at h
  rename_i a t d e;simp only[ms]at h;subst h;obtain⟨i1,i2⟩:=Lj e;refine⟨by simp[i1],fun p c=>?_⟩;simp only[hW,List.zip_cons_cons,hU]at c;rcases c with rfl|c
  ·simp only[Xg d];exact f
  ·exact i2 p c
end
mutual
def QE:AV->List Nat->List Nat
 | .p _,acc=>acc
 | .ptr b _,acc| .cm b _ _ _ _,acc| .sl b _ _ _ _,acc| .map b,acc=>b::acc
 | .func _ c a,acc=>vW c (vW a acc)
 | .st _ fs,acc| .aD fs,acc=>vW fs acc
def vW:List AV->List Nat->List Nat
 |[],acc=>acc
 |v::r,acc=>QE v (vW r acc)
end
def aq1:Obj->List Nat
 | .box _ t=>QE t []
 | .arr _ _ _ es=>vW es []
 |_=>[]
def Fx(H:ah):Nat->List Nat->List Nat->List Nat
 |0,_,acc=>acc
 |_,[],acc=>acc
 |n+1,b::r,acc=>match lY b acc 0 with
  |some _=>Fx H n r acc
  |none=>Fx H n (match H[b]? with
   |some o=>aq1 o++r
   |none=>r) (b::acc)
def nodupB:List Nat->Bool
 |[]=>true
 |x::r=>(match lY x r 0 with
  |some _=>false
  |none=>true)&&nodupB r
theorem Lp{b:Nat}:∀{l:List Nat}{i:Nat},lY b l i=none->b∉l
 |[],_,_=>by simp
 |x::r,i,h=>by
  simp only[lY]at h;cases a:lq x b
  ·simp only[a,cond_false]at h;have:=Lp h;simp only[hU,not_or];refine⟨fun e=>?_,this⟩;subst e;rw[me]at a;cases a
  ·simp[a]at h
theorem Lv:∀{l:List Nat},nodupB l=true->l.Nodup
 |[],_=>List.nodup_nil
 |x::r,h=>by
  simp only[nodupB,cx]at h;rw[j0];refine⟨?_,Lv h.2⟩;have a:=h.1
  split at a
  ·simp at a
  ·rename_i hn;exact Lp hn
def Ck(H:ah)(b v:Nat):Bool:=match H[b]? with
 |some .hole|none=>false
 |some (.arr _ aE _ _)=>lm v aE
 |some _=>true
theorem ara{H:ah}{b v:Nat}(h:Ck H b v=true):aN H (b,v):=by
 unfold Ck at h
 split at h
 ·simp at h
 ·simp at h
 ·rename_i k aE al c a;exact⟨_,a,eh h⟩
 ·rename_i o d e a;refine⟨o,a,?_⟩;cases o with
  |hole=>exact(d rfl).elim
  |arr k aE al c=>exact(e _ _ _ _ rfl).elim
  |_=>trivial
mutual
def tq(H:ah):AV->Bool
 | .p _=>true
 | .ptr b _| .map b=>Ck H b 0
 | .cm b aE _ _ _| .sl b aE _ _ _=>Ck H b aE
 | .func _ c a=>pU H c&&pU H a
 | .st _ fs| .aD fs=>pU H fs
def pU(H:ah):List AV->Bool
 |[]=>true
 |v::r=>tq H v&&pU H r
end
mutual
theorem Ej{H:ah}:∀{a:AV},tq H a=true->aH (aN H) a
 | .p _,_=>by simp[aH]
 | .ptr _ _,h| .map _,h| .cm _ _ _ _ _,h| .sl _ _ _ _ _,h=>by
  simp only[tq]at h;simp only[aH];exact ara h
 | .func _ c b,h=>by
  simp only[tq,cx]at h;simp only[aH];exact⟨sv h.1,sv h.2⟩
 | .st _ _,h| .aD _,h=>by
  simp only[tq]at h;simp only[aH];exact sv h
theorem sv{H:ah}:∀{l:List AV},pU H l=true->aZ (aN H) l
 |[],_=>by simp[aZ]
 |v::r,h=>by
  simp only[pU,cx]at h;simp only[aZ];exact⟨Ej h.1,sv h.2⟩
end
def Bq(H:ah):Obj->Bool
 | .box _ t=>tq H t
 | .arr _ _ _ es=>pU H es
 | .loop _=>false
 |_=>true
theorem Lr{H:ah}{o:Obj}(h:Bq H o=true):o.refs (aN H):=by
 cases o<;>simp only[Bq]at h<;>simp only[Obj.refs]
 ·exact Ej h
 ·exact sv h
 ·simp at h
def tf(p:Obj->Bool):List Obj->Bool
 |[]=>true
 |o::r=>p o&&tf p r
theorem xU{p:Obj->Bool}:∀{l:List Obj},tf p l=true->∀o∈l,p o=true
 |[],_,o,h=>by simp at h
 |a::r,h,o,b=>by
  simp only[tf,cx]at h;rcases hU.1 b with rfl|b
  ·exact h.1
  ·exact xU h.2 o b
def Bg(n:Nat):List Nat->Bool
 |[]=>true
 |x::r=>lm (x+1) n&&Bg n r
theorem Ff{n:Nat}:∀{l:List Nat},Bg n l=true->∀x∈l,x<n
 |[],_,o,h=>by simp at h
 |a::r,h,o,b=>by
  simp only[Bg,cx]at h;rcases hU.1 b with rfl|b
  ·exact eh h.1
  ·exact Ff h.2 o b
def Bc:Obj->Bool
 | .hole=>false
 |_=>true
def yn(run:List AV->ah->Option (AV×ah))(args:List AV)(H:ah):Option aY:=
 let bs:=Fx H 1000 (vW args []) []
 match oy bs args,x9 bs H bs with
 |some gB,some H0=>bif nodupB bs&&(Bg H.length bs&&(pU H0 gB&&tf (Bq H0) H0))then
  match run gB H0 with
  |some (v0,H1)=>bif lm H0.length H1.length&&(tf Bc (H1.take H0.length))then some (dE bs H.length H0 H1 v0)else none
  |none=>none
  else none
 |_,_=>none
theorem Ea{P:da}{f:dq}{run:List AV->ah->Option (AV×ah)}(n:∀args H v H',run args H=some (v,H')->c8 P f H args H' v){args:List AV}{H:ah}{e:aY}(h:yn run args H=some e):
 tD P f args H.length e/\qc H e:=by
 unfold yn at h;dsimp only at h
 split at h
 case h_2=>simp at h
 rename_i gB H0 g i;simp only[cy,mm,cx]at h;obtain⟨⟨g1,g2,g3,g4⟩,h⟩:=h
 split at h
 case h_2=>simp at h
 rename_i q H1 j;simp only[mm,ms]at h;obtain⟨⟨g5,g7⟩,rfl⟩:=h;obtain⟨k1,k2⟩:=Lj (base:=H.length) i;have hf:=(n _ _ _ _ j).frame _ H.length k1.symm (Lv g1) (Ff g2) (eh g5) (sv g3) (fun b o k=>Lr (xU g4 o (i4 k)));rw[su g]at hf;refine⟨hf,k2,fun p d=>?_⟩;simp only[dE]at d;have c:=js d;refine⟨Ff g2 _ c.1,fun l=>?_⟩;obtain⟨o,m,a⟩:=j4.1 c.2;rw[l]at a;have:=xU g7 o m;rw[YC.1 a]at this;simp[Bc]at this
mutual
theorem yo:∀v:AV,cN (fun i=>i) v=v
 | .p _| .sl .. | .cm .. | .ptr .. | .map _=>rfl
 | .st u vs=>by simp only[cN,qO vs]
 | .aD vs=>by simp only[cN,qO vs]
 | .func f a b=>by simp only[cN,qO a,qO b]
theorem qO:∀l:List AV,cU (fun i=>i) l=l
 |[]=>rfl
 |v::l=>by simp only[cU,yo v,qO l]
end
theorem LN:∀e:Env,vE (fun i=>i) e=e
 |[]=>rfl
 |(x,v)::r=>by simp only[vE,yo v,LN r]
theorem PR(o:Obj):dB (fun i=>i) o=o:=by
 cases o<;>simp only[dB,yo,qO,LN]
theorem BT(n:Nat):sig (h5 n) n=fun i=>i:=by
 funext i
 by_cases h:i<n
 ·rw[vg (by simpa using h)];simp
 ·rw[vh (by simpa using h)];simp;omega
def gw(H:ah):List (Nat×Obj):=(h5 H.length).zip H
theorem vO{H:ah}{p:Nat×Obj}(h:p∈gw H):H[p.1]?=some p.2:=by
 rw[gw,ii]at h;obtain⟨i,hi,a⟩:=h;rw[List.getElem_zip]at a;subst a;simp
def Cd(H:ah):Env->Bool
 |[]=>true
 |(_,v)::r=>tq H v&&Cd H r
theorem Oe{H:ah}:∀{e:Env},Cd H e=true->∀x,aH (aN H) (aP e x)
 |[],_,x=>by simp[aP,aH]
 |(y,v)::r,h,x=>by
  simp only[Cd,cx]at h;simp only[aP]
  split
  ·exact Ej h.1
  ·exact Oe h.2 x
def O5(H:ah):Obj->Bool
 | .loop L=>Cd H L.env
 |o=>Bq H o
theorem XG{H:ah}{o:Obj}(h:O5 H o=true):o.refs (aN H):=by
 cases o<;>first
  |exact Lr h
  |exact Oe h
def EX(run:Nat->ah->List AV->Option (ah×AV))(b:Nat)(args:List AV)(H:ah):Option aY:=
 bif pU H args&&tf (O5 H) H then
  match run b H args with
  |some (H1,v)=>bif lm H.length H1.length&&(tf Bc (H1.take H.length))then some {v,aA:=gw H,aO:=(h5 H.length).zip (H1.take H.length),ba:=H1.drop H.length}else none
  |none=>none
 else none
theorem WQ{P:da}{run:Nat->ah->List AV->Option (ah×AV)}(k:∀b H args H' v,run b H args=some (H',v)->fQ P b H args H' v){b:Nat}{args:List AV}{H:ah}{e:aY}(h:EX run b args H=some e):
 pY P b args H.length e/\qc H e:=by
 unfold EX at h;simp only[cy,mm,cx]at h;obtain⟨⟨g3,g4⟩,h⟩:=h
 split at h
 case h_2=>simp at h
 rename_i H1 f g;simp only[mm,ms]at h;obtain⟨⟨g5,g7⟩,rfl⟩:=h;have hf:=(k _ _ _ _ _ g).frame (h5 H.length) H.length s_ kr (fun b a=>by simpa using a) (eh g5) (sv g3) (fun b o a=>XG (xU g4 o (i4 a)));have e:dE (h5 H.length) H.length H H1 f={v:=f,aA:=gw H,aO:=(h5 H.length).zip (H1.take H.length),ba:=H1.drop H.length}:=by
  simp only[dE,BT,yo];rw[show(dB fun i=>i)=id from funext PR,jp,jp,jp,gw]
 rw[e,BT,qO]at hf;refine⟨hf,fun p c=>vO c,fun p c=>?_⟩;have d:=js c;refine⟨by simpa using d.1,fun j=>?_⟩;have:=xU g7 p.2 d.2;rw[j]at this;simp[Bc]at this
end Go.az
