import Derived.Test.YtenbmieafgdjaaaGreatDoorMThB
import Derived.Laws.StructEq
import Derived.Laws.Concat
import Derived.ChangeKeysEq
import Derived.MapKept
import Derived.Laws.RangeString
import Derived.Lib.UnsafeStr
import Derived.Laws.BytesArg
import Derived.Orders
/- Parts of a proof. -/
set_option linter.unusedSimpArgs false
set_option linter.unusedVariables false
set_option linter.unusedSectionVars false
open Array renaming getElem?_eq_some_iff->b5, ext'->cb, getElem?_toList->cc, length_toList->ce, getElem?_eq_getElem->ck, toList_push->cv, getElem?_push->cx, getD->cy
open Bool renaming or_eq_true->c6, false_eq_true->c9, and_eq_true->da
open Go renaming run_underlying->db, Operand->dg, TypeId->dk, Value->dl, execOp->dp, World->dq, Program->dz, MapEntry->ea, setRow_other->eb, setRow_heap->ec, FuncId->ed, Field->ee, step_leave_returned->ei, run_storeCells_at->ej, TypeDesc->em, IntKind->en, Frame->eo
open Go.Builtin renaming firstCells->eq, clear_->ew, unsafeString_->e6, zeroCells->e7, copy_->e8, min2->e9, max2->fb, unsafeSliceData_->fd, min_->fl, max_->fm, lenOf->fv, cap_->fK
open Go.ByteArray renaming toList_eq->gb
open Go.Call renaming operands->gc
open Go.Instr renaming findNow->ge, findAsking->gg, checkKey->gi, findKey->gj, mapUpdate->gm, lookup->gt, sameNow->gx, next->gy
open Go.MapKept renaming run_getObj_map->g0, bytes_beq->g7
open Go.Op renaming operands->g8, equalIn->g9, equal->ha, bytesLess->hb, eqFields->hd, eqItems->he, stringOp->hg
open Go.Region renaming wanted->hh, binds->hj
open Go.Result renaming andThen_ok->hl, andThen->hm
open Go.Sem renaming run_bind->hn, run_pure->ho, run->hp
open Go.Utf8 renaming decode->hr
open Go.Value renaming oneCell'->ht, int->hv
open Go.World renaming freeze->hw, cell?->hz
open List renaming getElem?_eq_some_iff->hA, getElem?_set_self->hB, length_append->hC, replicate->hD, map_cons->hE, append_nil->hF, mem_cons->hG, mem_cons_of_mem->hH, getElem?_set_ne->hK, mem_of_mem_take->hL, map_append->hM, size_toArray->hN, append_assoc->hO, contains_iff_mem->hP, any_eq_true->hQ, mem_of_mem_drop->hR, map_toArray->hS, length_eq_zero_iff->hT, take_of_length_le->hU, map_nil->hV, map_map->hW, getElem?_eq_none->hX, replicate_succ->hZ, map_congr_left->h0, length_pos_iff->h2, flatten_append->h3, mem_singleton->h4, getElem?_map->h5, length->h6, nil_append->h7, drop_zero->h8, getElem?_append_left->h9, getElem?_eq_getElem->ih, map->ii, take_succ_cons->ik, all_eq_true->ip, mem_append->ix, length_map->iz, sum_cons->i0, mem_map->i4, map_id->i5, range->i6
open Nat renaming le_refl->i7, lt_irrefl->i8, lt_trichotomy->i9, add_zero->jp, le_add_right->js, zero_add->j1, add_mul->j2, zero_mul->j3, succ_mul->j4, ne_of_lt->j5, le_total->j6
open Option renaming isSome_iff_exists->j7
open PUnit renaming unit->j8
open UInt8 renaming toNat_ofNat'->j9, toNat_inj->kb, ofNat->kc
namespace Go.al
set_option linter.unusedSectionVars false
variable[Gl]
section
variable{P:dz}{w:dq}{aa ah:Nat->Prop}{β:Bd}{H:Heap}
variable{o:Oper}{ρ:dg->AV}{base:Nat}
theorem wM{c:Call}{s x:dg}(D:o.op= .call c)(hc:c.callee= .builtin .append)(y:c.args.toList=[s,x]){T X e:dk}(I:c.argTypes=#[T,X]){i:TypeInfo}{j:dl}{sz:Nat}(u:pB P T sz e i)(v:gJ P X=true)
 (L:i.zero=some j)(M:j.cells.size=sz)(F:bP P w aa β H ah){g:dg->dl}{p:Option Addr}{b f:Nat}{olds a:List AV}{ocss:List (List dl)}(hs:g s=.slice p b f)(m:olds.length=b)(l:Row P w aa β H sz olds ocss)(E:aQ (aG H) olds)
 (C:(eq sz b (.slice p b f)).run P w.drew=.ok ocss.flatten.toArray w.drew)
 (hx:gw H (ρ x)=some a)(K:aw P w aa β H (ρ x) (g x))(J:aB (aG H) (ρ x))(G:eH P sz a)(A:f<b+a.length)(B:b+a.length<=cC):
 ∃cap cells d N,(dp g o).run P w=.ok (.value (.slice (some ⟨w.heap.size,0,none⟩) (b+a.length) cap)) {w.drew with heap:=w.heap.push (.cells cells e)}/\
  Row P w aa β H sz (olds++a) d/\aQ (aG H) (olds++a)/\cells.toList=d.flatten++N/\cells.size=cap*sz/\(olds++a).length<=cap:=by
 obtain⟨d,h,q,r,t⟩:=uH hx F K J G;have k:=t w.drew rfl a.length (i7 _);have O:d.length=a.length:=(fB h).1;rw[hU (by omega)]at k;obtain⟨cap,z,n⟩:=Ug u v L o.type (sLen:=b) (sCap:=f) (p:=p) (g x) r C k A B;rw[<-I,<-hs]at n;refine⟨cap,_,ocss++d,(e7 j.cells (cap-(b+a.length))).toList,wV D hc y n,kx.2 ⟨_,_,rfl,l,h⟩,jo E q,by simp,?_,by simpa[m]using z⟩;have e1:=(fB l).2;have e2:=(fB h).2;simp only[Array.size_append,hN,G7,M,e1,e2,m,<-j2];congr 1;omega
theorem sO{T:dk}:gk P T≠.frozen/\gk P T≠.exact:=by
 unfold gk;split<;>simp
theorem Dd{T e:dk}(h:dN P T=e)(hk:gk P T=.bytes):e=Gl.u8:=by
 unfold gk at hk
 split at hk
 ·rename_i a;rw[<-h];exact a
 ·cases hk
theorem A9{_o':Obj}{k:AK}{a:List AV}{b:List (List dl)}{r:List dl}{cells:Array dl}{e:dk}{cap sz:Nat}(j:bP P w aa β H ah)(c:H[base]?=some .hole)
 (g:k≠.frozen)(i:¬c7 k a)(m:Row P w aa β H sz a b)(d:aQ (aG H) a)(hc:cells.toList=b.flatten++r)(o:cells.size=cap*sz)(h:a.length<=cap)(f:k=.exact->cap=a.length)(p:k=.bytes->e=Gl.u8):
 bV P ah aa w β H aa {w.drew with heap:=w.heap.push (.cells cells e)} (β.at base w.heap.size cap) (ba H ([]++newAt base [.arr k 0 sz a]))/\
 aw P {w.drew with heap:=w.heap.push (.cells cells e)} aa (β.at base w.heap.size cap) (ba H ([]++newAt base [.arr k 0 sz a])) (.sl base 0 sz 0 a.length) (.slice (some ⟨w.heap.size,0,none⟩) a.length cap)/\
 aB (aG (ba H ([]++newAt base [.arr k 0 sz a]))) (.sl base 0 sz 0 a.length):=by
 have l:bP P w.drew aa β H ah:=bP.uv (w:=w) (w':=w.drew) rfl j;have n:Row P w.drew aa β H sz a b:=Row.mono (w:=w) (w':=w.drew) (fun _ x=>x) (fun _ _=>rfl) (ch.refl _ _) d m;obtain⟨q1,q⟩:=xk (T:=e) (k:=k) l c g i n d hc o h f p;rw[kS];exact⟨bV.drew (w1:=w.drew) rfl ⟨rfl,rfl⟩ q1,q,⟨_,hB (hA.1 c).1,i7 _⟩⟩
theorem Jv{b:Nat}{k k':AK}{ar ai:Nat}{i es':List AV}{ak cap:Nat}(f:H[b]?=some (.arr k ar ai i)):ch β H (β.at b ak cap) (H.set b (.arr k' (ar+1) ai es')):=by
 have j:b<H.length:=(hA.1 f).1;have c:∀x,x≠b->(H.set b (.arr k' (ar+1) ai es'))[x]?=H[x]?:=fun x hx=>hK (Ne.symm hx);have a:(H.set b (.arr k' (ar+1) ai es'))[b]?=some (.arr k' (ar+1) ai es'):=hB j;refine⟨?_,?_,?_,?_,?_⟩
 ·rintro x _ ⟨fz,t,h⟩
  by_cases hx:x=b
  ·subst hx;rw[a]at h;cases h
  ·rw[c x hx]at h;exact⟨⟨fz,t,h⟩,by simp[Bd.at,hx]⟩
 ·rintro x _ ⟨fz,t,h⟩
  by_cases hx:x=b
  ·subst hx;rw[a]at h;cases h
  ·rw[c x hx]at h;exact⟨⟨fz,t,h⟩,by simp[Bd.at,hx]⟩
 ·rintro x _ ⟨n,h,e⟩
  by_cases hx:x=b
  ·subst hx;rw[a]at h;cases h;exact e.elim
  ·rw[c x hx]at h;exact⟨⟨n,h,e⟩,by simp[Bd.at,hx]⟩
 ·intro x v z m g hi h;unfold eA at h
  by_cases hx:x=b
  ·subst hx;rw[a]at h;cases h;obtain⟨o,d,l⟩:=hi;simp only at d;rw[f]at d;cases d;simp only[Obj.has]at l;omega
  ·rw[c x hx]at h;exact⟨m,g,h,i7 _,Iff.rfl,fun _=>by simp[Bd.at,hx]⟩
 ·rintro x _ ⟨L,h⟩
  by_cases hx:x=b
  ·subst hx;rw[a]at h;cases h
  ·rw[c x hx]at h;exact⟨⟨L,h⟩,by simp[Bd.at,hx]⟩
theorem Bd.UU(β:Bd)(b:Nat):β.at b (β.ak b) (β.cap b)=β:=by
 cases β with
 |mk ak cap=>
  simp only[Bd.at,Bd.mk.injEq];constructor
  ·funext x;split
   ·rename_i h;rw[h]
   ·rfl
  ·funext x;split
   ·rename_i h;rw[h]
   ·rfl
theorem An{α:Type}(A M Z X:List α):(A++M++Z).take A.length++X++(A++M++Z).drop (A.length+M.length)=A++X++Z:=by
 rw[hO A M Z,List.take_left,<-hO,<-hC,List.drop_left]
theorem Uz{c:Call}{s x:dg}(Y:o.op= .call c)(hc:c.callee= .builtin .append)(W:c.args.toList=[s,x])(bU:c.argTypes.size=2){H0:Heap}{K:aU->Prop}
 (h:mY P (c.argTypes.getD 0 0) (c.argTypes.getD 1 0) H0 (ρ s) (ρ x) K):
 ∃e,K e/\bp P o ρ H0.length e/\(∀p∈e.aj,H0[p.1]?=some p.2)/\(∀p∈e.aJ,p.1<H0.length/\p.2≠.hole):=by
 obtain⟨T,X,S⟩:∃T X,c.argTypes=#[T,X]:=by
  obtain⟨l,I⟩:∃l,l=c.argTypes.toList:=⟨_,rfl⟩
  have af:l.length=2:=by rw[I];simpa using bU
  match l,af with
  |[a,b],_=>exact⟨a,b,by apply cb;simp[<-I]⟩
 have B:s∈o.op.operands/\x∈o.op.operands:=by
  have bF:c.args=#[s,x]:=by apply cb;simpa using W
  rw[Y];simp[g8,gc,hc,bF]
 have e1:c.argTypes.getD 0 0=T:=by rw[S];rfl
 have e2:c.argTypes.getD 1 0=X:=by rw[S];rfl
 rw[e1,e2]at h;unfold mY at h
 split at h
 case h_2=>exact h.elim
 rename_i sz g F hx;obtain⟨ag,a8,am,h⟩:=h;obtain⟨e,i,F⟩:=jJ F;obtain⟨z,a8⟩:=j7.1 a8;obtain⟨b3,b0,bf,z2,z3,z4⟩:=nZ a8;rw[F.pj]at bf z4;rw[F.info]at bf;cases bf;have aW:b0.cells.size=sz:=by
  obtain⟨_,i2,k1,k2⟩:=wN (v:=.p z) (w:=default) (aa:=fun _=>False) (β:=⟨id,id⟩) (H:=[]) z4 (by simp only[bm];exact z3 _ _);rw[F.info]at k1;cases k1;have:=F.size;simp at k2;omega
 have bb:∀{aj:List (Nat×Obj)},(∀p∈dy H0 (ρ x),p∈aj)->(∀p∈aj,H0[p.1]?=some p.2)->g=[]->(∀(H:Heap)(w:dq)(aa ah:Nat->Prop)(β:Bd)(v:dl),bP P w aa β H ah->(∀p∈aj,H[p.1]?=some p.2)->aw P w aa β H (ρ s) v->∃p a b,v= .slice p a b/\a<=b)->
  bp P o ρ H0.length {v:=ρ s,aj}:=by
  intro aj bT av bW bR;subst bW;refine bp.same fun H w aa ah β au f j aj=>?_;obtain⟨p,a,b,u,bE⟩:=bR H w aa ah β _ f aj (j s B.1).1;obtain⟨E,C,af,bB,bC⟩:=uH (oV hx (fun p u=>aj p (bT p u))) f (j x B.2).1 (j x B.2).2 am;have bj:=bC w rfl 0 (i7 _);simp only[List.take_zero,List.flatten_nil]at bj;have R:=S8 F ag o.type (p:=p) (sLen:=a) (sCap:=b) _ bB bj bE;rw[<-S,<-u]at R;exact⟨_,wV Y hc W R,by rw[u];exact u▸(j s B.1).1,(j s B.1).2⟩
 have a9:∀l:List AV,l.isEmpty=true->l=[]:=fun l h=>by simpa using h
 split at h
 ·
  rename_i hs
  split at h
  ·rename_i G;refine⟨_,h,?_,mO,by simp⟩;exact bb (fun p u=>u) mO (a9 _ G) (fun H w aa ah β v _ _ A=>by rw[hs]at A;simp only[aw,aA]at A;exact⟨_,_,_,A,i7 _⟩)
  ·rename_i G;obtain⟨bq,h⟩:=h;refine⟨_,h,?_,mO,by simp⟩;intro H w aa ah β au f j aj aI;have al:H[H0.length]?=some .hole:=by simpa using aI 0 (by simp)
   have Q:=(j s B.1).1;rw[hs]at Q;simp only[aw,aA]at Q;have bs:0<g.length:=h2.2 (by simpa using G);obtain⟨cap,cells,E,D,ac,an,ad,ao,ap,aq⟩:=wM Y hc W S F ag z2 aW f Q (olds:=[]) (ocss:=[]) rfl (gT.2 rfl) (by simp[aQ]) (by simp[eq])
    (oV hx aj) (j x B.2).1 (j x B.2).2 am (by omega) (by omega)
   obtain⟨q1,Z,ab⟩:=A9 (base:=H0.length) (k:=gk P T) (e:=e) (_o':=.hole) f al sO.1 (fun q=>G (by simpa using q.2)) an ad ao ap aq (fun h=>(sO.2 h).elim) (Dd F.pj);simp only[h7,j1]at ac q1 Z ab;exact⟨_,_,_,_,aa,ac,.inl rfl,q1,Z,ab⟩
 ·
  rename_i full d hs;obtain⟨bG,h⟩:=h
  have Q:∀{H:Heap}{w:dq}{aa:Nat->Prop}{β:Bd}{v:dl},aw P w aa β H (ρ s) v->∃p c N,v= .slice p d.length c/\d.length<=c/\(full=true->c=d.length)/\Row P w aa β H sz (d.map .p) N/\
   (∀w':dq,w'.heap=w.heap->(eq sz d.length v).run P w'=.ok N.flatten.toArray w'):=by
   intro H w aa β v A;rw[hs]at A;simp only[aw,aA]at A;obtain⟨ak,off,cap,ai,E,v1,v2,v3,v4,v5,sp,bS,rfl⟩:=A;rcases bS with rfl|rfl
   case inr=>
    obtain rfl:d=[]:=hT.1 (by omega);exact⟨_,_,[],rfl,by simp,by simp,gT.2 rfl,fun w' _=>Af⟩
   have aM:Row P w aa β H ai (d.map .p) E:=lh.2 v1;have bw:Row P w aa β H sz (d.map .p) E:=by
    by_cases br:d.map AV.p=[]
    ·rw[br]at aM⊢;rw[gT]at aM⊢;exact aM
    ·rw[<-rR aM bG br];exact aM
   refine⟨_,_,E,rfl,v5,v4,bw,fun w' a7=>tR (by have:=(fB bw).2;simpa using this) (v3.same (by rw[a7]))⟩
  split at h
  ·rename_i G;refine⟨_,h,?_,mO,by simp⟩;exact bb (fun p u=>u) mO (a9 _ G) (fun H w aa ah β v _ _ A=>by obtain⟨p,c,_,C,af,_⟩:=Q A;exact⟨p,_,c,C,af⟩)
  ·rename_i G;obtain⟨hf,bq,h⟩:=h;refine⟨_,h,?_,mO,by simp⟩;intro H w aa ah β au f j aj aI;have al:H[H0.length]?=some .hole:=by simpa using aI 0 (by simp)
   have bs:0<g.length:=h2.2 (by simpa using G);obtain⟨p,cp,N,s1,s2,bY,bZ,bA⟩:=Q (j s B.1).1;rw[s1]at bA;obtain⟨cap,cells,E,D,ac,an,ad,ao,ap,aq⟩:=wM Y hc W S F ag z2 aW f s1 (olds:=d.map .p) (by simp) bZ (iM _ _) (bA w.drew rfl)
    (oV hx aj) (j x B.2).1 (j x B.2).2 am (by have:=bY hf;omega) (by omega)
   obtain⟨q1,Z,ab⟩:=A9 (base:=H0.length) (k:=gk P T) (e:=e) (_o':=.hole) f al sO.1 (fun q=>G (by have:=q.2;simp at this;simp[this.2])) an ad ao ap aq (fun h=>(sO.2 h).elim) (Dd F.pj);simp only[hC,iz]at Z ab;exact⟨_,_,_,_,aa,ac,.inl rfl,q1,Z,ab⟩
 ·
  rename_i b ar ai off len hs
  split at h
  case h_2=>exact h.elim
  rename_i k b4 b1 d a5;obtain⟨rfl,rfl,rfl,hlen,h⟩:=h;have av:∀p∈(b,Obj.arr k ar ai d)::dy H0 (ρ x),H0[p.1]?=some p.2:=by
   intro p u;rcases hG.1 u with rfl|u
   ·exact a5
   ·exact mO p u
  have Q:∀{H:Heap}{w:dq}{aa ah:Nat->Prop}{β:Bd}{v:dl},bP P w aa β H ah->H[b]?=some (.arr k ar ai d)->aw P w aa β H (ρ s) v->
   (c7 k d/\v=.slice none 0 0/\len=0)\/(¬c7 k d/\v=.slice (some ⟨β.ak b,off*ai,none⟩) len (β.cap b-off)/\
   ∃cs T E D,w.heap[β.ak b]?=some (.cells cs T (0,0))/\Row P w aa β H ai d E/\cs.toList=E.flatten++D/\
   cs.size=β.cap b*ai/\d.length<=β.cap b/\(k=.exact->β.cap b=d.length)/\cw aa β ah (k== .frozen) b/\(k=.bytes->T=Gl.u8)):=by
   intro H w aa ah β v f t A;rw[hs]at A;simp only[aw,bK,bO]at A;obtain⟨_,v2,v3⟩:=A.2 k d t
   by_cases q:c7 k d
   ·exact .inl ⟨q,v2 q,by have:=q.2;subst this;simp at hlen;omega⟩
   ·rcases f.cE b _ t with hold|⟨cs,O,E,D,k1,k2,k3,k4,k5,k6,k7,k8⟩
    ·exact(q hold).elim
    ·exact .inr ⟨q,v3 q,cs,O,E,D,k1,k2,k3,k4,k5,k6,k7,k8.2⟩
  have holds:∀{H:Heap}{w:dq}{aa:Nat->Prop}{β:Bd}{cs:Array dl}{O:dk}{E:List (List dl)}{D:List dl},w.heap[β.ak b]?=some (.cells cs O (0,0))->Row P w aa β H ai d E->cs.toList=E.flatten++D->
   ∃N,Row P w aa β H ai ((d.drop off).take len) N/\∀(w':dq)(n c:Nat),w'.heap=w.heap->(eq ai len (.slice (some ⟨β.ak b,off*ai,none⟩) n c)).run P w'=.ok N.flatten.toArray w':=by
   intro H w aa β cs O E D k1 k2 k3;obtain⟨a,m,z,g1,g2,g3,g4,g5⟩:=jq k2 off len hlen;refine⟨m,g2,fun w' n c a7=>tR (by have:=(fB g2).2;rw[this];congr 1;simp;omega) ?_⟩;have:=kW k1 (pre:=a.flatten) (xs:=m.flatten) (post:=z.flatten++D) (by rw[k3,g1];simp);rw[g3]at this;exact this.same (by rw[a7])
  split at h
  ·rename_i G;refine⟨_,h,?_,av,by simp⟩;refine bb (fun p u=>hH _ u) av (a9 _ G) (fun H w aa ah β v f aj A=>?_);rcases Q f (aj (b,_) (by simp)) A with⟨_,C,_⟩|⟨q,C,cs,O,E,D,af⟩
   ·exact⟨_,_,_,C,i7 _⟩
   ·exact⟨_,_,_,C,by omega⟩
  ·rename_i G;have bs:0<g.length:=h2.2 (by simpa using G);obtain⟨bq,h⟩:=h
   split at h
   ·exact h.elim
   ·
    split at h
    ·rename_i ay;refine⟨_,h,?_,av,by simpa using(hA.1 a5).1⟩;intro H w aa ah β au f j aj _;have t:H[b]?=some (.arr .exact ar ai d):=aj (b,_) (by simp);rcases Q f t (j s B.1).1 with⟨q,_⟩|⟨q,C,cs,O,E,D,k1,k2,k3,k4,k5,k6,k7,k8⟩
     ·cases q.1
     obtain⟨M,V,bc,bd,be⟩:=uH (oV hx (fun p u=>aj p (hH _ u))) f (j x B.2).1 (j x B.2).2 am;have aO:=be w rfl g.length (i7 _);rw[hU (by have:=(fB V).1;omega)]at aO;have bn:=k6 rfl;obtain⟨a,m,ae,g1,g2,g3,g4,g5⟩:=jq k2 (off+len) g.length ay;have az:=(fB V).2;have ax:m.flatten.length=g.length*ai:=by have:=(fB g2).2;rw[this];congr 1;simp;omega
     have aP:cs.toList=a.flatten++m.flatten++(ae.flatten++D):=by rw[k3,g1];simp
     have bl:a.flatten.length=off*ai+len*ai:=by rw[g3,j2]
     have bx:cs.size=a.flatten.length+m.flatten.length+(ae.flatten++D).length:=by
      have:=congrArg h6 aP;simp only[hC,ce]at this;rw[this,hC]
     have R:=G6 F ag o.type (sLen:=len) (sCap:=β.cap b-off) _ bd k1 aO (uN V) (by omega) (by rw[az,bx,bl,ax];exact js _ _);rw[<-S,<-C]at R;have aR:cs.toList.take (off*ai+len*ai)++M.flatten++cs.toList.drop (off*ai+len*ai+M.flatten.length)=a.flatten++M.flatten++(ae.flatten++D):=by
      rw[aP,<-bl,az,<-ax];exact An _ _ _ _
     rw[aR]at R;have aK:ch β H β (H.set b (.arr .exact ar ai (d.take (off+len)++g++d.drop (off+len+g.length)))):=oi t (.inr (.inl ⟨_,_,_,_,_,rfl,rfl,by simp;omega⟩));have aF:¬aa (β.ak b)/\¬ah (β.ak b):=by
      unfold cw at k7;rw[if_neg (by simp)]at k7;exact k7
     have a6:∀J,aa J->(w.setRow (β.ak b) (a.flatten++M.flatten++(ae.flatten++D)).toArray).heap[J]?=w.heap[J]?:=fun J a2=>eb w _ J _ (fun a1=>aF.1 (a1▸a2));have hrefs:aQ (aG H) (d.take (off+len)++g++d.drop (off+len+g.length)):=by
      have bt:=cG.1 (f.refs b _ t);refine jo (jo ?_ bc) ?_
      ·rw[cG];exact fun v A=>bt v (hL A)
      ·rw[cG];exact fun v A=>bt v (hR A)
     have aS:=lj t (o:=.arr .exact ar ai (d.take (off+len)++g++d.drop (off+len+g.length))) (fun _ h=>h);have a3:(d.take (off+len)++g++d.drop (off+len+g.length)).length=d.length:=by simp;omega
     have aL:=pq f t q (o':=.arr .exact ar ai (d.take (off+len)++g++d.drop (off+len+g.length))) (fun U=>by cases U.1) (fun _ h=>h) k1 (new:=(a.flatten++M.flatten++(ae.flatten++D)).toArray) aF aK
      (.inr ⟨_,O,a++M++ae,D,ec w _ _ _ O _ k1,by
       refine Row.mono (fun _ x=>x) a6 aK hrefs (kx.2 ⟨_,_,rfl,kx.2 ⟨_,_,rfl,g4,V⟩,g5⟩),by simp,by
       rw[<-k4,bx];simp only[hN,hC,az,ax],by rw[a3];exact k5,fun _=>by rw[a3];exact bn,k7,(fun aT=>by cases aT),k8⟩) (aQ.mono aS _ hrefs)
     refine⟨_,_,_,β,aa,wV Y hc W R,.inl rfl,aL,?_,?_⟩
     ·simp only[aw,bK,bO,ba,newAt,hF];refine⟨by simp[ht],fun J bh I=>?_⟩;unfold eA at I;rw[hB (hA.1 t).1]at I;cases I;exact⟨by rw[a3];omega,(fun U=>by cases U.1),fun _=>trivial⟩
     ·simp only[aB];exact⟨_,hB (hA.1 t).1,i7 _⟩
    ·rename_i ay;refine⟨_,h,?_,av,by simp⟩;intro H w aa ah β au f j aj aI;have al:H[H0.length]?=some .hole:=by simpa using aI 0 (by simp)
     have t:H[b]?=some (.arr .exact ar ai d):=aj (b,_) (by simp);rcases Q f t (j s B.1).1 with⟨q,_⟩|⟨q,C,cs,O,E,D,k1,k2,k3,k4,k5,k6,k7,k8⟩
     ·cases q.1
     have bn:=k6 rfl;obtain⟨N,aN,aX⟩:=holds k1 k2 k3;have bo:((d.drop off).take len).length=len:=by simp;omega
     obtain⟨cap,cells,bg,bz,ac,an,ad,ao,ap,aq⟩:=wM Y hc W S F ag z2 aW f C (olds:=(d.drop off).take len) bo aN
      (by rw[cG];exact fun v A=>cG.1 (f.refs b _ t) v (hR (hL A))) (aX w.drew _ _ rfl)
      (oV hx (fun p u=>aj p (hH _ u))) (j x B.2).1 (j x B.2).2 am (by omega) (by omega)
     obtain⟨q1,Z,ab⟩:=A9 (base:=H0.length) (k:=gk P T) (e:=e) (_o':=.hole) f al sO.1 (fun q=>G (by have:=q.2;simp at this;simp[this.2])) an ad ao ap aq (fun h=>(sO.2 h).elim) (Dd F.pj);rw[hC,bo]at Z ab;exact⟨_,_,_,_,aa,ac,.inl rfl,q1,Z,ab⟩
   ·
    rename_i bI bJ;obtain⟨rfl,bL,h⟩:=h;have aJ:k≠.frozen:=fun e=>bI e;have aT:k≠.exact:=fun e=>bJ e;have b2:(k==AK.frozen)=false:=by simpa using aJ
    refine⟨_,h,?_,av,by simpa using(hA.1 a5).1⟩;intro H w aa ah β au f j aj _;have t:H[b]?=some (.arr k ar ai d):=aj (b,_) (by simp);have aC:b<H.length:=(hA.1 t).1;have aV:(d.take len).length=len:=by simp;omega
    have bv:aQ (aG H) (d.take len):=by rw[cG];exact fun v A=>cG.1 (f.refs b _ t) v (hL A)
    have a4:¬c7 k (d.take len++g):=fun U=>G (by have:=U.2;simp at this;simp[this.2]);have aS:=lj t (o:=.arr k (ar+1) ai (d.take len++g)) (fun v h=>by simp only[Obj.has]at h⊢;omega)
    have bi:∀(p:Option Addr)(aZ:Nat)(N:List (List dl)),au s= .slice p len aZ->Row P w aa β H ai (d.take len) N->(eq ai len (.slice p len aZ)).run P w.drew= .ok N.flatten.toArray w.drew->aZ<len+g.length->
     ∃n a0 w' aH aE,(dp au o).run P w=.ok n w'/\(n=.value a0\/n=.skip/\a0=undef)/\
      bV P ah aa w β H aE w' aH (H.set b (.arr k (ar+1) ai (d.take len++g)))/\aw P w' aE aH (H.set b (.arr k (ar+1) ai (d.take len++g))) (.sl b (ar+1) ai 0 (len+g.length)) a0/\
      aB (aG (H.set b (.arr k (ar+1) ai (d.take len++g)))) (.sl b (ar+1) ai 0 (len+g.length)):=by
     intro p aZ N C bN bM bH;obtain⟨cap,cells,bg,bz,ac,an,ad,ao,ap,aq⟩:=wM Y hc W S F ag z2 aW f C (olds:=d.take len) aV bN bv bM
      (oV hx (fun p u=>aj p (hH _ u))) (j x B.2).1 (j x B.2).2 am bH (by omega)
     have aK:=Jv (β:=β) (k':=k) (es':=d.take len++g) (ak:=w.heap.size) (cap:=cap) t;have aL:bV P ah aa w β H aa {w.drew with heap:=w.heap.push (.cells cells e)} (β.at b w.heap.size cap) (H.set b (.arr k (ar+1) ai (d.take len++g))):=by
      refine bV.set f aC (fun y bX=>by simp[Bd.at,bX]) (fun _ y=>y) (fun _ y=>.inl y) (fun k hk=>by have:=f.bR k hk;simp;omega) (by simp)
       (fun k _ hk=>by simp[cx,j5 hk]) (fun _=>.inl (by simp[Bd.at])) aK
       (.inr ⟨cells,e,bg,bz,by simp[Bd.at],Row.mono (fun _ y=>y) (fun k hk=>by have:=f.bR k hk;simp[cx,j5 this]) aK ad an,ao,by simp[Bd.at,ap],by simpa[Bd.at]using aq,(fun aD=>(aT aD).elim),by
        unfold cw;rw[if_neg (by simpa using aJ)];simp only[Bd.at,if_true];exact⟨fun h=>i8 _ (f.bR _ h),fun h=>i8 _ (f.dS _ h)⟩,(fun aD=>(aJ aD).elim),fun al=>F.pj▸bL al⟩)
       (aQ.mono aS _ ad) (fun aN v C af=>by rw[t]at C;cases C;simp only[Obj.has]at af⊢;omega) (fun L bk=>by rw[t]at bk;cases bk)
     refine⟨_,_,_,_,aa,ac,.inl rfl,aL,?_,?_⟩
     ·simp only[aw,bK,bO];refine⟨by simp[ht],fun J bh I=>?_⟩;unfold eA at I;rw[hB aC]at I;cases I;exact⟨by rw[hC,aV];omega,fun U=>(a4 U).elim,fun _=>by simp[Bd.at]⟩
     ·simp only[aB];exact⟨_,hB aC,i7 _⟩
    simp only[ba,newAt,hF];rcases Q f t (j s B.1).1 with⟨q,C,rfl⟩|⟨q,C,cs,O,E,D,k1,k2,k3,k4,k5,k6,k7,k8⟩
    ·exact bi none 0 [] C (by simp[gT]) (by simp[eq]) (by omega)
    ·simp only[j3,Nat.sub_zero]at C
     by_cases ay:len+g.length<=β.cap b
     ·
      obtain⟨M,V,bc,bd,be⟩:=uH (oV hx (fun p u=>aj p (hH _ u))) f (j x B.2).1 (j x B.2).2 am;have aO:=be w rfl g.length (i7 _);rw[hU (by have:=(fB V).1;omega)]at aO;obtain⟨a,m,ae,g1,g2,g3,g4,g5⟩:=jq k2 0 len hlen;have bD:a=[]:=by have:=(fB g4).1;simpa using this
      subst bD;have az:=(fB V).2;have ax:m.flatten.length=len*ai:=by have:=(fB g2).2;rw[this];congr 1
      have aP:cs.toList=m.flatten++(ae.flatten++D):=by rw[k3,g1];simp
      have bQ:=Nat.mul_le_mul_right ai ay;rw[j2]at bQ;have R:=G6 F ag o.type (off:=0) (sLen:=len) (sCap:=β.cap b) _ bd k1 aO (uN V) ay (by rw[az,k4];omega);rw[<-S,<-C]at R;obtain⟨aY,bu⟩:∃r,r=cs.toList.drop (len*ai+M.flatten.length):=⟨_,rfl⟩
      have aR:cs.toList.take (0+len*ai)++M.flatten++cs.toList.drop (0+len*ai+M.flatten.length)=(m++M).flatten++aY:=by
       rw[j1,<-bu];congr 1;rw[aP,<-ax];simp
      rw[aR]at R;have aF:¬aa (β.ak b)/\¬ah (β.ak b):=by
       unfold cw at k7;rw[if_neg (by simpa using aJ)]at k7;exact k7
      have aK:ch β H β (H.set b (.arr k (ar+1) ai (d.take len++g))):=by
       have:=Jv (β:=β) (k':=k) (es':=d.take len++g) (ak:=β.ak b) (cap:=β.cap b) t
       rwa [Bd.UU]at this
      have a6:∀J,aa J->(w.setRow (β.ak b) ((m++M).flatten++aY).toArray).heap[J]?=w.heap[J]?:=fun J a2=>eb w _ J _ (fun a1=>aF.1 (a1▸a2));have hrefs:aQ (aG H) (d.take len++g):=jo bv bc;have aL:=pq f t q (o':=.arr k (ar+1) ai (d.take len++g)) a4 (fun v h=>by simp only[Obj.has]at h⊢;omega) k1 (new:=((m++M).flatten++aY).toArray) aF aK
       (.inr ⟨_,O,m++M,aY,ec w _ _ _ O _ k1,by
        refine Row.mono (fun _ x=>x) a6 aK hrefs (kx.2 ⟨_,_,rfl,?_,V⟩);simpa using g2,by simp,by
        rw[<-k4];simp only[hN,hC,h3,az,ax,bu,List.length_drop,ce,k4];omega,by rw[hC,aV];exact ay,(fun aD=>(aT aD).elim),k7,(fun h=>(aJ h).elim),k8⟩) (aQ.mono aS _ hrefs)
      refine⟨_,_,_,β,aa,wV Y hc W R,.inl rfl,aL,?_,?_⟩
      ·simp only[aw,bK,bO];refine⟨by simp[ht],fun J bh I=>?_⟩;unfold eA at I;rw[hB aC]at I;cases I;exact⟨by rw[hC,aV];omega,fun U=>(a4 U).elim,fun _=>by simp⟩
      ·simp only[aB];exact⟨_,hB aC,i7 _⟩
     ·obtain⟨N,aN,aX⟩:=holds k1 k2 k3;simp only[h8,j3]at aN aX;exact bi _ _ N C aN (aX w.drew _ _ rfl) (by omega)
 ·exact h.elim
end
section
variable{P:dz}{w:dq}{aa ah:Nat->Prop}{β:Bd}{H:Heap}
variable{o:Oper}{ρ:dg->AV}{base:Nat}
def iE(bs:ByteArray):List Nat:=bs.data.toList.map (·.toNat)
theorem Aj:∀{a b:List UInt8},a.map (·.toNat)=b.map (·.toNat)->a=b
 |[],[],_=>rfl
 |[],_::_,h=>by simp at h
 |_::_,[],h=>by simp at h
 |x::a,y::b,h=>by
  simp at h;rw[kb.1 h.1,Aj h.2]
theorem bytes_beq(a b:ByteArray):(a.toList==b.toList)=(iE a==iE b):=by
 rw[gb,gb];unfold iE
 by_cases h:a.data.toList=b.data.toList
 ·simp[h]
 ·have d:¬(a.data.toList.map (·.toNat)=b.data.toList.map (·.toNat)):=fun c=>h (Aj c)
  rw[beq_eq_false_iff_ne.2 h,beq_eq_false_iff_ne.2 d]
theorem GC:∀a b:List UInt8,hb a b=iN (a.map (·.toNat)) (b.map (·.toNat))
 |[],[]=>rfl
 |_::_,[]=>rfl
 |[],_::_=>rfl
 |x::a,y::b=>by
  simp only[hb,hE,iN,GC a b];congr 1
  ·congr 1
   by_cases h:x=y
   ·simp[h]
   ·have:¬x.toNat=y.toNat:=fun c=>h (kb.1 c);rw[beq_eq_false_iff_ne.2 h,beq_eq_false_iff_ne.2 this]
theorem aAp{c:BinOp}{T j:dk}{x y:dg}{a b:List Nat}{K:PV->Prop}(g:o.op= .binOp c T x y j)(hx:ρ x= .p (.str a))(u:ρ y= .p (.str b))
 (h:oP c a b K)(aj:List (Nat×Obj)):∃v,K v/\bp P o ρ base {v:=.p v,aj}:=by
 have key:∀v,K v->(∀(w:dq)(aa:Nat->Prop)(s t:ByteArray),a=iE s->b=iE t->∃r,(hg c s t).run P w=.ok r w/\aA P w aa v r)->∃v,K v/\bp P o ρ base {v:=.p v,aj}:=by
  intro v q n;refine⟨v,q,bp.same fun H w aa ah β C B i _=>?_⟩;have e:=(i x (by simp[g,g8])).1;have f:=(i y (by simp[g,g8])).1;rw[hx]at e;rw[u]at f;simp only[aw,Lr]at e f;obtain⟨s,e1,e2⟩:=e;obtain⟨t,e3,e4⟩:=f;obtain⟨r,z,A⟩:=n w aa s t e2 e4;refine⟨r,?_,by simpa only[aw]using A,by simp[aB]⟩;simp only[dp,g,e1,e3];refine eh ?_;have l:(eqGuard c T x y (.string s) (.string t)).run P w=.ok () w:=by
   unfold eqGuard
   split<;>simp
  have k:(binOp c T (.string s) (.string t)).run P w=.ok r w:=by
   cases c<;>first|(simp[oP]at h;done)|exact z
  simp[l,k]
 have m:∀s t:ByteArray,a=iE s->b=iE t->hb s.toList t.toList=iN a b/\(s.toList==t.toList)=(a==b):=by
  intro s t hs d;rw[bytes_beq,<-hs,<-d,GC,gb,gb];exact⟨by rw[hs,d];rfl,rfl⟩
 cases c<;>simp only[oP]at h
 case add=>
  refine key _ h.2 fun w aa s t hs d=>⟨.string (s++t),run_string_add_sum w s t ?_,?_⟩
  ·have e:a.length=s.size:=by rw[hs];simp[iE]
   have f:b.length=t.size:=by rw[d];simp[iE]
   omega
  ·rw[Lr];exact⟨_,rfl,by rw[hs,d];simp[iE,ByteArray.data_append]⟩
 case eql|neq|lss|leq|gtr|geq=>
  refine key _ h fun w aa s t hs d=>?_;obtain⟨e1,e2⟩:=m s t hs d;exact⟨_,by simp only[hg,e1,e2];rfl,by simp[aA]⟩
theorem RV{T:dk}(h:pU P T=true):P.underlying T=some .bool:=by
 unfold pU at h
 split at h
 ·assumption
 ·simp at h
theorem Gt{T:dk}{a b:dl}{r:Bool}{w:dq}(h:(ha T a b).run P w= .ok r w)(d:(∃x,a= .bool x)\/(∃x,a= .agg x)\/(∃p n c,a= .slice p n c)\/(∃m,a= .map m)\/a= .nilFunc\/(∃f x y,a= .func f x y)\/(∃p,a= .pointer p)\/a= .nilIface):
 (binOp .eql T a b).run P w=.ok (.bool r) w/\(binOp .neq T a b).run P w=.ok (.bool !r) w:=by
 rcases d with⟨x,rfl⟩|⟨x,rfl⟩|⟨p,n,c,rfl⟩|⟨m,rfl⟩|rfl|⟨f,x,y,rfl⟩|⟨p,rfl⟩|rfl
 all_goals (constructor<;>(unfold binOp;simp[h]))
def iZ.isAgg:iZ->Bool
 | .agg _=>true
 |_=>false
theorem U0{T:dk}{t:iZ}(hk:kindOf P T=t)(a:t≠.bad)(w:dq):(isAgg T).run P w=.ok t.isAgg w:=by
 unfold kindOf at hk;cases hu:P.underlying T with
 |none=>rw[hu]at hk;simp at hk;exact(a hk.symm).elim
 |some d=>
  rw[hu]at hk;simp only[isAgg,hn,db hu,hl];cases d<;>simp only at hk<;>(split at hk<;>first|(subst hk;rfl)|exact(a hk.symm).elim)
theorem pW{F:dk}{v:PV}{pre c post:List dl}{cs:Array dl}(hk:kindOf P F=aL v)(b:aS P w aa v c)(e:cs.toList=pre++c++post):
 ∃x,(part F cs pre.length).run P w=.ok x w/\aA P w aa v x:=by
 obtain⟨j,i,f,g⟩:=wN (v:=.p v) (β:=⟨id,id⟩) (H:=[]) (w:=w) (aa:=aa) hk (by simpa only[bm]using b);have d:=(mW b).2;have a:=U0 hk d w;cases hs:aL v with
 |bad=>exact(d hs).elim
 |leaf=>
  rw[hs]at a;obtain⟨x,rfl,hx⟩:=(rS hs c).1 b;refine⟨x,?_,hx⟩;have:cs[pre.length]?=some x:=by rw[<-cc,e];simp
  simp[part,a,this,iZ.isAgg]
 |agg u=>
  rw[hs]at a;refine⟨.agg c.toArray,?_,(uP hs c).1 b⟩;have h:(sizeOf F).run P w=.ok c.length w:=by simp[sizeOf,typeInfo,f,g]
  have:cs.extract pre.length (pre.length+c.length)=c.toArray:=by
   apply cb;rw[Array.toList_extract,e];simp[List.extract_eq_take_drop]
  simp[part,a,h,this,iZ.isAgg]
theorem uO{n:Nat}{b:List Nat}{v:PV}{vs:List PV}{a:List (List dl)}(h:bc P w aa (n::b) (v::vs) a):∃c cs,a=c::cs/\aS P w aa v c/\c.length=n/\bc P w aa b vs cs:=by
 simpa only[bc]using h
theorem GA{eqF:dk->PV->PV->Option Bool}{d:Nat}(B:∀F a b r,eqF F a b=some r->kindOf P F=aL a->kindOf P F=aL b->∀x y,aA P w aa a x->aA P w aa b y->(g9 d F x y).run P w= .ok r w){X Y:Array dl}:
 ∀(fs:List ee)(l:List Nat)(j k:List PV)(r:Bool)(h m:List dl)(o p:List (List dl)),gL P eqF (fs.map (·.type)) j k=some r->fs.all (fun f=>f.name != "_")=true->
 (∀(i:Nat)(f:ee),fs[i]?=some f->f.offset=h.length+(l.take i).sum)->bc P w aa l j o->bc P w aa l k p->h.length=m.length->
 X.toList=h++o.flatten->Y.toList=m++p.flatten->(hd d X Y fs).run P w=.ok r w
 |[],l,j,k,r,h,m,o,p,e,_,_,_,_,_,_,_=>by
  cases j<;>cases k<;>simp[gL]at e;subst e;simp[hd]
 |f::fs,l,j,k,r,h,m,o,p,e,q,v,hx,L,A,t,hY=>by
  cases j with
  |nil=>simp[gL]at e
  |cons a j=>
   cases k with
   |nil=>simp[gL]at e
   |cons b k=>
    cases l with
    |nil=>simp[bc]at hx
    |cons n l=>
     simp only[hE,gL]at e
     split at e
     case isFalse=>simp at e
     rename_i hk
     split at e
     case h_2=>simp at e
     rename_i N O E G;simp at e;subst e;obtain⟨c,cs,rfl,hc,u,K⟩:=uO hx;obtain⟨c',s,rfl,H,I,M⟩:=uO L;simp only[List.all_cons,da,bne_iff_ne]at q;have z:f.offset=h.length:=by simpa using v 0 f (by simp)
     obtain⟨x,C,R⟩:=pW hk.1 hc (pre:=h) (post:=cs.flatten) (cs:=X) (by rw[t];simp);obtain⟨y,D,S⟩:=pW hk.2 H (pre:=m) (post:=s.flatten) (cs:=Y) (by rw[hY];simp);have e1:=B _ _ _ _ E hk.1 hk.2 x y R S;rw[<-z]at C;rw[<-A,<-z]at D;have Q:=GA B fs l j k O (h++c) (m++c') cs s G q.2 (by
      intro i g J;have:=v (i+1) g (by simpa using J);rw[this,ik,i0,hC,u];omega) K M (by simp[A,u,I]) (by rw[t];simp) (by rw[hY];simp)
     simp only[hd,q.1,ne_eq,not_false_eq_true,if_true,hn,C,D,e1,hl];cases N with
     |false=>simp
     |true=>simpa using Q
theorem E3{eqF:dk->PV->PV->Option Bool}{d:Nat}{e:dk}(u:∀a b r,eqF e a b=some r->∀x y,aA P w aa a x->aA P w aa b y->(g9 d e x y).run P w= .ok r w){X Y:Array dl}:
 ∀(n k:Nat)(g h:List PV)(r:Bool)(i j:List dl)(l m:List (List dl)),gL P eqF (hD n e) g h=some r->
 bc P w aa (hD n (P.cellsOf e)) g l->bc P w aa (hD n (P.cellsOf e)) h m->i.length=k*P.cellsOf e->j.length=k*P.cellsOf e->
 X.toList=i++l.flatten->Y.toList=j++m.flatten->(he d e (P.cellsOf e) X Y (List.range' k n)).run P w=.ok r w
 |0,k,g,h,r,i,j,l,m,f,_,_,_,_,_,_=>by
  cases g<;>cases h<;>simp[gL]at f;subst f;simp[he]
 |n+1,k,g,h,r,i,j,l,m,f,hx,t,q,s,p,hY=>by
  cases g with
  |nil=>simp[hZ,gL]at f
  |cons a g=>
   cases h with
   |nil=>simp[hZ,gL]at f
   |cons b h=>
    rw[hZ]at f hx t;simp only[gL]at f
    split at f
    case isFalse=>simp at f
    rename_i hk
    split at f
    case h_2=>simp at f
    rename_i H I A B;simp at f;subst f;obtain⟨c,cs,rfl,hc,D,F⟩:=uO hx;obtain⟨c',o,rfl,C,E,G⟩:=uO t;obtain⟨x,v,K⟩:=pW hk.1 hc (pre:=i) (post:=cs.flatten) (cs:=X) (by rw[p];simp);obtain⟨y,z,L⟩:=pW hk.2 C (pre:=j) (post:=o.flatten) (cs:=Y) (by rw[hY];simp);have e1:=u _ _ _ A x y K L;rw[q]at v;rw[s]at z;have J:=E3 u n (k+1) g h I (i++c) (j++c') cs o B F G (by rw[hC,q,D,j4]) (by rw[hC,s,E,j4]) (by rw[p];simp) (by rw[hY];simp);rw[List.range'_succ];simp only[he,hn,v,z,e1,hl];cases H with
    |false=>simp
    |true=>simpa using J
theorem xL:∀(n:Nat)(T:dk)(v v':PV)(r:Bool),eZ P n T v v'=some r->∀x y,aA P w aa v x->aA P w aa v' y->∀d,n<=d->(g9 d T x y).run P w=.ok r w
 |0,_,_,_,_,h,_,_,_,_,_,_=>by simp[eZ]at h
 |n+1,T,v,v',r,h,x,y,hx,g,d,L=>by
  obtain⟨d,rfl⟩:∃e,d=e+1:=⟨d-1,by omega⟩
  unfold eZ at h
  split at h
  ·rename_i a b c;simp at h;subst h;simp only[aA]at hx g;subst hx;subst g;simp[g9,db c]
  ·rename_i k0 k a M b c
   split at h
   case isFalse=>simp at h
   rename_i hk;subst hk;simp at h;subst h;simp only[aA]at hx g;subst hx;subst g;exact run_equalIn_int w d T k k0 a b c
  ·rename_i a b c;simp at h;subst h;simp only[aA]at hx g;obtain⟨s,rfl,hs⟩:=hx;obtain⟨t,rfl,H⟩:=g;rw[run_equalIn_string w d T s t c,bytes_beq,hs,H];rfl
  ·rename_i fs u A u' B c
   split at h
   case isFalse=>simp at h
   rename_i hc;obtain⟨hk,rfl,G,E⟩:=hc;simp only[aA]at hx g;obtain⟨l,j,k1,k2,rfl⟩:=hx;obtain⟨D,o,k3,k4,rfl⟩:=g;rw[k1]at k3;cases k3;obtain⟨K,D,s1,s2,q,z,N,I⟩:=tV (P:=P) (T:=T) (u:=u') (n:=fs.size) (by unfold fx;rw[hk,c]);rw[c]at s1;cases s1;rw[k1]at z;cases z;have C:P.fieldsOf T=fs:=by simp[Program.fieldsOf,c]
   rw[run_equalIn_struct w d T _ _ (by rw[C];exact c) G,C];refine GA (eqF:=eZ P n) (fun F a b r p _ _ x y hx g=>xL n F a b r p x y hx g d (by omega)) fs.toList l A B r [] [] j o h E ?_ k2 k4 rfl (by simp) (by simp);intro i f hf;have hi:i<fs.size:=by
    have:=(hA.1 hf).1;simpa using this
   obtain⟨J,g1,g2,_⟩:=I i hi;rw[cc,g1]at hf;cases hf;simpa using g2
  ·rename_i m e u A u' B c
   split at h
   case isFalse=>simp at h
   rename_i hc;obtain⟨hk,rfl,hi⟩:=hc;simp only[aA]at hx g;obtain⟨l,j,k1,k2,rfl⟩:=hx;obtain⟨D,o,k3,k4,rfl⟩:=g;rw[k1]at k3;cases k3;obtain⟨e',s1,s2,q,z⟩:=rV (P:=P) (T:=T) (u:=u') (n:=m) (by unfold gK;rw[hk,c]);rw[c]at s1;cases s1;rw[k1]at q;cases q;obtain⟨i,hi⟩:=j7.1 hi;rw[run_equalIn_array w d _ _ c hi,List.range_eq_range'];exact E3 (eqF:=eZ P n) (fun a b r p x y hx g=>xL n e a b r p x y hx g d (by omega)) m 0 A B r [] [] j o h k2 k4 (by simp) (by simp) (by simp) (by simp)
  ·simp at h
end
section
variable{P:dz}{w:dq}{aa ah:Nat->Prop}{β:Bd}{H:Heap}
variable{o:Oper}{ρ:dg->AV}{base:Nat}
theorem Ct{d:BinOp}{T C:dk}{x y:dg}{r:Bool}{K:PV->Prop}{l:List (Nat×Obj)}(k:o.op= .binOp d T x y C)
 (D:d=.eql/\K (.bool r)\/d=.neq/\K (.bool !r))
 (I:∀(H:Heap)(w:dq)(aa ah:Nat->Prop)(β:Bd)(a b:dl),bP P w aa β H ah->(∀p∈l,H[p.1]?=some p.2)->aw P w aa β H (ρ x) a->aw P w aa β H (ρ y) b->(ha T a b).run P w=.ok r w/\
  ((∃x,a=.bool x)\/(∃x,a=.agg x)\/(∃p n c,a=.slice p n c)\/(∃m,a=.map m)\/a=.nilFunc\/(∃f x y,a=.func f x y)\/(∃p,a=.pointer p)\/(a=.nilIface/\lJ y=true))/\(∀u v,a=.agg u->b=.agg v->P.eqGuardType P.depth T=false)):
 ∃v,K v/\bp P o ρ base {v:=.p v,aj:=l}:=by
 have key:∀v,K v->(∀(w:dq)(a b:dl),(ha T a b).run P w= .ok r w->((∃x,a= .bool x)\/(∃x,a= .agg x)\/(∃p n c,a= .slice p n c)\/(∃m,a= .map m)\/a= .nilFunc\/(∃f x y,a= .func f x y)\/(∃p,a= .pointer p)\/a= .nilIface)->
  ∃q,v=.bool q/\(binOp d T a b).run P w=.ok (.bool q) w)->∃v,K v/\bp P o ρ base {v:=.p v,aj:=l}:=by
  intro v J hq;refine⟨v,J,bp.same fun H w aa ah β s G t aj=>?_⟩;obtain⟨L,z,A⟩:=I H w aa ah β _ _ G aj (t x (by simp[k,g8])).1 (t y (by simp[k,g8])).1;obtain⟨q,rfl,F⟩:=hq w _ _ L (by rcases z with h|h|h|h|h|h|h|h<;>simp[h]);refine⟨.bool q,?_,by simp[aw,aA],by simp[aB]⟩;simp only[dp,k];refine eh ?_;have E:(eqGuard d T x y (s x) (s y)).run P w=.ok () w:=by
   rcases z with⟨p,e⟩|⟨p,e⟩|⟨p,n,c,e⟩|⟨m,e⟩|e|⟨f,M,N,e⟩|⟨p,e⟩|⟨e,hc⟩
   all_goals rw[e]at A⊢
   case inr.inl=>
    cases hy:s y with
    |agg B=>
     exact run_eqGuard_agg w d T x y p B (A p B rfl hy)
    |_=>cases d<;>rfl
   case inr.inr.inr.inr.inr.inr.inr=>
    cases y<;>simp[lJ]at hc;unfold eqGuard;cases d<;>simp<;>(split<;>simp_all)
   all_goals (cases d<;>rfl)
  simp[E,F]
 rcases D with⟨rfl,j⟩|⟨rfl,j⟩
 ·exact key _ j fun w a b g i=>⟨_,rfl,(Gt g i).1⟩
 ·exact key _ j fun w a b g i=>⟨_,rfl,(Gt g i).2⟩
theorem xH(T:dk)(a b:dl):∃d,9<=d+1/\ha T a b=g9 (d+1) T a b:=⟨9999,by omega,rfl⟩
theorem HN{T:dk}{c:Bool}{b:AV}{k:tC}(h:dh P T c b=some k):
 (k=.ptr/\b=.p .dD/\∃e,P.underlying T=some (.pointer e))\/(k=.slice/\b=.p .aF/\∃e,P.underlying T=some (.slice e))\/
 (k=.map/\b=.p .fo/\∃e f,P.underlying T=some (.map e f))\/(k=.func/\b=.p .gX/\∃e f g,P.underlying T=some (.func e f g))\/(k=.iface/\b=.p .fG/\c=true/\∃m,P.underlying T=some (.interface m)):=by
 unfold dh at h
 split at h<;>first
  |(split at h
    ·rename_i a;simp at h;subst h;simp[a]
    ·simp at h)
  |simp at h
theorem az5{T:dk}{c:Bool}{H0:Heap}{a b:AV}{r:Bool}{k:tC}(hk:dh P T c b=some k)(h:cO H0 k a=some r){l s:dl}(aj:∀p∈dy H0 a,H[p.1]?=some p.2)(i:aw P w aa β H a l)(C:aw P w aa β H b s):
 (ha T l s).run P w=.ok r w/\((∃x,l=.bool x)\/(∃x,l=.agg x)\/(∃p n c,l=.slice p n c)\/(∃m,l=.map m)\/l=.nilFunc\/(∃f x y,l=.func f x y)\/(∃p,l=.pointer p)\/(l=.nilIface/\c=true))/\(∀u v,l=.agg u->s=.agg v->P.eqGuardType P.depth T=false):=by
 obtain⟨d,_,I⟩:=xH T l s;rw[I];rcases HN hk with⟨rfl,rfl,e,j⟩|⟨rfl,rfl,e,j⟩|⟨rfl,rfl,e,f,j⟩|⟨rfl,rfl,e,f,g,j⟩|⟨rfl,rfl,G,m,j⟩
 all_goals simp only[aw,aA]at C
 all_goals subst C
 ·cases a<;>simp only[cO]at h
  case p v=>
   cases v<;>simp only at h<;>simp at h
   all_goals subst h
   all_goals simp only[aw,aA]at i
   ·subst i;simp[g9,db j]
   ·obtain⟨_,_,_,_,_,_,rfl⟩:=i;simp[g9,db j]
  case ptr B path=>
   simp only[aw,bK,bO]at i;obtain⟨_,_,_,_,rfl,_⟩:=i
   split at h
   ·simp at h;subst h;simp[g9,db j]
   ·simp at h
  all_goals simp at h
 ·cases a<;>simp only[cO]at h
  case p v=>
   cases v
   case seq o=>
    cases o with
    |nil=>simp at h
    |cons e o=>
     simp at h;subst h;simp only[aw,aA]at i;rcases i with⟨J,_⟩|⟨_,_,_,_,_,_,_,_,_,_,_,rfl⟩
     ·cases J
     ·simp[g9,db j]
   all_goals simp only at h
   all_goals simp at h
   all_goals subst h
   all_goals simp only[aw,aA]at i
   ·subst i;simp[g9,db j]
   ·obtain⟨_,_,_,_,_,_,_,_,_,_,_,_,rfl⟩:=i;simp[g9,db j]
  case sl B ar ai off len=>
   simp only[aw,bK,bO]at i;simp only[dy]at aj
   split at h
   case h_2=>simp at h
   rename_i A M L o t;rw[t]at aj;have z:=aj _ (h4.2 rfl)
   split at h
   case isFalse=>simp at h
   rename_i hc;obtain⟨rfl,rfl⟩:=hc;obtain⟨_,E,F⟩:=i.2 A o z
   by_cases q:c7 A o
   ·rw[E q];have:r=true:=by simp at h;rw[<-h];simp[q.1,q.2]
    subst this;simp[g9,db j]
   ·rw[F q];have:r=false:=by
     simp at h;rw[<-h];unfold c7 at q
     by_cases D:A.gr=true
     ·have K:o≠[]:=fun h=>q ⟨D,h⟩;simp[K]
     ·simp[D]
    subst this;simp[g9,db j]
  all_goals simp at h
 ·cases a<;>simp only[cO]at h
  case p v=>
   cases v<;>simp only at h<;>simp at h
   all_goals subst h
   all_goals simp only[aw,aA]at i
   ·subst i;simp[g9,db j]
   ·obtain⟨_,_,_,_,_,_,rfl⟩:=i;simp[g9,db j]
  case map B=>
   simp only[aw,bK,bO]at i;simp only[dy]at aj
   split at h
   case h_2=>simp at h
   rename_i fz o t;rw[t]at aj;have z:=aj _ (h4.2 rfl);rw[i.2.1 ⟨_,z,trivial⟩];simp at h;subst h;simp[g9,db j]
  all_goals simp at h
 ·cases a<;>simp only[cO]at h
  case p v=>
   cases v<;>simp only at h<;>simp at h
   all_goals subst h
   all_goals simp only[aw,aA]at i
   ·obtain⟨_,_,_,_,rfl⟩:=i;simp[g9,db j]
   ·subst i;simp[g9,db j]
  case func f first gU=>
   simp only[aw]at i;obtain⟨_,_,_,_,rfl⟩:=i;simp at h;subst h;simp[g9,db j]
  all_goals simp at h
 ·cases a<;>simp only[cO]at h
  case p v=>
   cases v<;>simp only at h<;>simp at h
   all_goals subst h
   all_goals simp only[aw,aA]at i
   subst i;simp[g9,db j,G]
  all_goals simp at h
theorem aAg{i:BinOp}{T s:dk}{x y:dg}{K:PV->Prop}{H0:Heap}(j:o.op= .binOp i T x y s)(h:jS P i T (lJ y) H0 (ρ x) (ρ y) K):
 ∃v,K v/\bp P o ρ base {v:=.p v,aj:=dy H0 (ρ x)}:=by
 unfold jS at h
 split at h
 ·rename_i k a C b hx g;exact aAk j hx g h.1 h.2 _
 ·rename_i a b hx g;exact aAp j hx g h _
 ·rename_i a b hx g;obtain⟨z,h⟩:=h;have m:=RV z;refine Ct (r:=a==b) j ?_ ?_
  ·split at h
   ·exact .inl ⟨rfl,h⟩
   ·exact .inr ⟨rfl,h⟩
   ·exact h.elim
  ·intro H w aa ah β n q e aj f c;rw[hx]at f;rw[g]at c;simp only[aw,aA]at f c;subst f;subst c;obtain⟨d,_,l⟩:=xH T (.bool a) (.bool b);rw[l];exact⟨by simp[g9,db m],.inl ⟨_,rfl⟩,fun u v m _=>by cases m⟩
 ·rename_i u fs u' t hx g;obtain⟨B,h⟩:=h;obtain⟨r,e,c⟩:∃r,eZ P 9 T (.st u fs) (.st u' t)=some r/\(i=.eql/\K (.bool r)\/i=.neq/\K (.bool !r)):=by
   split at h
   ·rename_i r e;exact⟨r,e,.inl ⟨rfl,h⟩⟩
   ·rename_i r e;exact⟨r,e,.inr ⟨rfl,h⟩⟩
   ·exact h.elim
  refine Ct (r:=r) j c ?_;intro H w aa ah β n q _ aj f c;rw[hx]at f;rw[g]at c;simp only[aw]at f c;refine⟨?_,?_,fun u v _ _=>by simpa[mA]using B⟩
  ·obtain⟨d,A,l⟩:=xH T n q;rw[l];exact xL 9 T _ _ r e _ _ f c (d+1) A
  ·simp only[aA]at f;obtain⟨_,_,_,_,rfl⟩:=f;exact .inr (.inl ⟨_,rfl⟩)
 ·rename_i hx g
  split at h
  case h_2=>exact h.elim
  rename_i k hk;obtain⟨r,e,c⟩:∃r,cO H0 k (ρ x)=some r/\(i=.eql/\K (.bool r)\/i=.neq/\K (.bool !r)):=by
   split at h
   ·rename_i r e;exact⟨r,e,.inl ⟨rfl,h⟩⟩
   ·rename_i r e;exact⟨r,e,.inr ⟨rfl,h⟩⟩
   ·exact h.elim
  exact Ct (r:=r) j c fun H w aa ah β n q _ aj f c=>az5 hk e aj f c
end
section
variable{P:dz}{w:dq}{aa ah:Nat->Prop}{β:Bd}{H:Heap}
variable{o:Oper}{ρ:dg->AV}{base:Nat}
theorem ni{c:dg->dl}:∀(l:List dg),(∀x∈l,aw P w aa β H (ρ x) (c x)/\aB (aG H) (ρ x))->bw P w aa β H (l.map ρ) (l.map c)/\aQ (aG H) (l.map ρ)
 |[],_=>by simp[bw,aQ]
 |x::l,h=>by
  have a:=h x (by simp);have b:=ni l (fun y d=>h y (by simp[d]));simp only[hE,bw,aQ];exact⟨⟨_,_,rfl,a.1,b.1⟩,a.2,b.2⟩
theorem xB{H0:Heap}:∀(l:List AV){j:List PV}{aj aJ:List (Nat×Obj)}{H:Heap}{aa:Nat->Prop}{vs:List dl},fw H0 l=some (j,aj,aJ)->bP P w aa β H ah->bw P w aa β H l vs->aQ (aG H) l->
 (∀p∈aj,∃f fz t,p.2=.box fz t/\H[p.1]?=some (.box f t))->∃aE,bV P ah aa w β H aE w β (ba H aJ)/\bn P w aE j vs/\∀p∈aJ,p.1<H0.length/\p.2≠.hole
 |[],j,aj,aJ,H,aa,vs,h,i,e,_,_=>by
  simp[fw]at h;obtain⟨rfl,rfl,rfl⟩:=h;simp only[bw]at e;exact⟨aa,bV.refl i,by simpa[bn]using e,by simp⟩
 |a::l,j,aj,aJ,H,aa,vs,h,i,e,d,m=>by
  simp only[bw]at e;obtain⟨y,x,rfl,n,u⟩:=e;simp only[aQ]at d;cases a with
  |p v=>
   simp only[fw]at h
   split at h
   case h_2=>simp at h
   rename_i G B E k;simp at h;obtain⟨rfl,rfl,rfl⟩:=h;obtain⟨aE,q1,o,q⟩:=xB l k i u d.2 m;simp only[aw]at n;exact⟨aE,q1,by simp only[bn];exact⟨y,x,rfl,aA.mono q1.bR (fun _ _=>rfl) _ _ n,o⟩,q⟩
  |ptr b path=>
   cases path with
   |cons _ _=>simp[fw]at h
   |nil=>
    simp only[fw]at h
    split at h
    case h_2=>simp at h
    rename_i fz t G B E C k;simp at h;obtain⟨rfl,rfl,rfl⟩:=h;obtain⟨f,J,K,e1,e2⟩:=m (b,.box fz (.p t)) (by simp);cases e1;have D:kj H (.ptr b [])=some (.cr t,H.set b (.box true (.p t))):=by
     simp only at e2;simp[kj,e2,kn]
    obtain⟨I,g,F⟩:=IB D i n d.1;have A:b<H.length:=(hA.1 e2).1;obtain⟨z,q1,o,q⟩:=xB l k g.rel (bw.mono g.bR (fun _ _=>rfl) g.step _ _ d.2 u) (aQ.mono g.eL _ d.2) (by
     intro p c;obtain⟨f2,r,t2,g1,g2⟩:=m p (by simp[c])
     by_cases s:b=p.1
     ·rw[<-s]at g2⊢;simp only at e2;rw[e2]at g2;cases g2;exact⟨true,r,_,g1,by rw[hB A]⟩
     ·exact⟨f2,r,t2,g1,by rw[hK s];exact g2⟩)
    refine⟨z,by simpa only[ba]using g.trans q1,?_,?_⟩
    ·simp only[bn];exact⟨y,x,rfl,aA.mono q1.bR (fun _ _=>rfl) _ _ F,o⟩
    ·intro p c;rcases hG.1 c with rfl|c
     ·exact⟨(hA.1 C).1,by simp⟩
     ·exact q p c
  |_=>simp[fw]at h
theorem S0{f:ed}{fi ca:Array dg}(E:o.op= .makeFunc (.func f) fi ca):
 (∀a b,eB (fi.toList.map ρ)=some a->eB (ca.toList.map ρ)=some b->bp P o ρ base {v:=.p (.func f a b)})/\
 bp P o ρ base {v:=.func f (fi.toList.map ρ) (ca.toList.map ρ)}/\
 (∀(H0:Heap) a b aj aJ,fw H0 (fi.toList.map ρ)=some (a,[],[])->fw H0 (ca.toList.map ρ)=some (b,aj,aJ)->bp P o ρ base {v:=.p (.func f a b),aj,aJ}/\(∀p∈aj,H0[p.1]?=some p.2)/\(∀p∈aJ,p.1<H0.length/\p.2≠.hole)):=by
 have g:∀x,x∈fi.toList\/x∈ca.toList->x∈o.op.operands:=by
  intro x hx;rw[E];simp only[g8,Array.mem_append];simpa using hx
 have u:∀(c:dg->dl)(w:dq),(dp c o).run P w=.ok (.value (.func (.func f) (fi.toList.map c).toArray (ca.toList.map c).toArray)) w:=by
  intro c w;simp only[dp,E];refine eh ?_;have j:(fi.toList.map c).toArray=fi.map c:=by apply cb;simp
  have k:(ca.toList.map c).toArray=ca.map c:=by apply cb;simp
  rw[j,k];simp[Instr.makeFunc]
 refine⟨?_,?_,?_⟩
 ·intro a b s m;refine bp.same fun H w aa ah β c z e _=>⟨_,u c w,?_,by simp[aB]⟩
  obtain⟨j,_⟩:=ni fi.toList (fun x hx=>e x (g x (.inl hx)));obtain⟨k,_⟩:=ni ca.toList (fun x hx=>e x (g x (.inr hx)));rw[lg s]at j;rw[lg m]at k;simp only[aw,aA];exact⟨_,_,jf.1 j,jf.1 k,rfl⟩
 ·refine bp.same fun H w aa ah β c z e _=>⟨_,u c w,?_,?_⟩
  ·simp only[aw];exact⟨_,_,(ni fi.toList (fun x hx=>e x (g x (.inl hx)))).1,(ni ca.toList (fun x hx=>e x (g x (.inr hx)))).1,rfl⟩
  ·simp only[aB];exact⟨(ni fi.toList (fun x hx=>e x (g x (.inl hx)))).2,(ni ca.toList (fun x hx=>e x (g x (.inr hx)))).2⟩
 ·intro H0 a b aj aJ s m;have D:∀p∈aj,H0[p.1]?=some p.2/\∃fz t,p.2=.box fz t:=by
   have:∀(l:List AV)(b:List PV)(aj aJ:List (Nat×Obj)),fw H0 l=some (b,aj,aJ)->∀p∈aj,H0[p.1]?=some p.2/\∃fz t,p.2=.box fz t:=by
    intro l
    induction l with
    |nil=>intro b aj aJ h;simp[fw]at h;obtain⟨rfl,rfl,rfl⟩:=h;simp
    |cons x l q=>
     intro b aj aJ h;cases x with
     |p v=>
      simp only[fw]at h
      split at h
      case h_2=>simp at h
      rename_i B n A i;simp at h;obtain⟨rfl,rfl,rfl⟩:=h;exact q _ _ _ i
     |ptr J path=>
      cases path with
      |cons _ _=>simp[fw]at h
      |nil=>
       simp only[fw]at h
       split at h
       case h_2=>simp at h
       rename_i fz t B n A y i;simp at h;obtain⟨rfl,rfl,rfl⟩:=h;intro p d;rcases hG.1 d with rfl|d
       ·exact⟨y,_,_,rfl⟩
       ·exact q _ _ _ i p d
     |_=>simp[fw]at h
   exact this _ _ _ _ m
  have K:∀p∈aJ,p.1<H0.length/\p.2≠.hole:=by
   have:∀(l:List AV)(b:List PV)(aj aJ:List (Nat×Obj)),fw H0 l=some (b,aj,aJ)->∀p∈aJ,p.1<H0.length/\p.2≠.hole:=by
    intro l
    induction l with
    |nil=>intro b aj aJ h;simp[fw]at h;obtain⟨rfl,rfl,rfl⟩:=h;simp
    |cons x l q=>
     intro b aj aJ h;cases x with
     |p v=>
      simp only[fw]at h
      split at h
      case h_2=>simp at h
      rename_i B n A i;simp at h;obtain⟨rfl,rfl,rfl⟩:=h;exact q _ _ _ i
     |ptr J path=>
      cases path with
      |cons _ _=>simp[fw]at h
      |nil=>
       simp only[fw]at h
       split at h
       case h_2=>simp at h
       rename_i fz t B n A y i;simp at h;obtain⟨rfl,rfl,rfl⟩:=h;intro p d;rcases hG.1 d with rfl|d
       ·exact⟨(hA.1 y).1,by simp⟩
       ·exact q _ _ _ i p d
     |_=>simp[fw]at h
   exact this _ _ _ _ m
  refine⟨?_,fun p d=>(D p d).1,K⟩;intro H w aa ah β c z e n _;obtain⟨j,N⟩:=ni fi.toList (fun x hx=>e x (g x (.inl hx)));obtain⟨k,G⟩:=ni ca.toList (fun x hx=>e x (g x (.inr hx)));obtain⟨O,r,L,_⟩:=xB _ s z j N (by simp);simp only[ba]at r;obtain⟨I,q1,M,_⟩:=xB _ m r.rel (bw.mono r.bR (fun _ _=>rfl) r.step _ _ G k) G (by
   intro p d;obtain⟨_,fz,t,F⟩:=D p d;have C:=n p d;rw[F]at C;exact⟨fz,fz,t,F,C⟩)
  simp only[newAt,hF];refine⟨_,_,w,β,I,u c w,.inl rfl,r.trans q1,?_,by simp[aB]⟩;simp only[aw,aA];exact⟨_,_,bn.mono q1.bR (fun _ _=>rfl) _ _ L,M,rfl⟩
theorem Ap{x:dg}(d:o.op=.nilCheck x)(h:(∃b p,ρ x=.ptr b p)\/(∃b v e i p,ρ x=.b6 b v e i p)\/∃t,ρ x=.p (.cr t)):bp P o ρ base {v:=ρ x}:=by
 refine bp.same fun H w aa ah β f l k aj=>?_;have c:=k x (by simp[d,g8]);refine⟨f x,?_,c⟩;have j:∃a,f x=.pointer (some a):=by
  rcases h with⟨b,p,hx⟩|⟨b,v,e,i,p,hx⟩|⟨t,hx⟩
  ·have c:=c.1;rw[hx]at c;simp only[aw,bK,bO]at c;obtain⟨_,_,_,_,h,_⟩:=c;exact⟨_,h⟩
  ·have c:=c.1;rw[hx]at c;simp only[aw,bK,bO]at c;obtain⟨_,_,_,_,h,_⟩:=c;exact⟨_,h⟩
  ·have c:=c.1;rw[hx]at c;simp only[aw,aA]at c;obtain⟨_,_,_,_,_,_,h⟩:=c;exact⟨_,h⟩
 obtain⟨a,g⟩:=j;simp[dp,d,g]
end
section
variable{P:dz}{w:dq}{aa ah:Nat->Prop}{β:Bd}{H:Heap}
variable{o:Oper}{ρ:dg->AV}{base:Nat}
open Go.MapKept
def jQ:PV->Prop
 | .st _ _=>False
 |_=>True
theorem Ci{T:dk}{key:PV}(h:jQ key)(k:PV):o5 P T key k=jY key k:=by
 cases key<;>first
  |exact h.elim
  |rfl
theorem R6{T:dk}{key:PV}(h:jQ key)(a:List (PV×PV)):lx P T a key=fF P T a key:=by
 cases key<;>first
  |exact h.elim
  |rfl
theorem xc{T:dk}{key:PV}{b:dl}(h:fj P T key=true)(c:jQ key)(a:aA P w aa key b):∃d,P.underlying T=some d/\IsKey d b:=by
 unfold fj at h
 split at h
 ·split at h
  ·rename_i e;simp at h;subst h;simp only[aA]at a;subst a;exact⟨_,e,by simp[IsKey]⟩
  ·simp at h
 ·simp only[aA]at a;obtain⟨bs,rfl,_⟩:=a;exact⟨_,wU h,by simp[IsKey]⟩
 ·exact c.elim
 ·simp at h
theorem yF{T:dk}{d:em}(j:P.underlying T=some d){key g:PV}{i v':dl}{r:Bool}(h:fj P T key=true)(p:jQ key)(c:jY key g=some r)(e:aA P w aa key i)(f:aA P w aa g v'):
 gx d i v'=some r/\(r=true->i=v'):=by
 unfold fj at h
 split at h
 ·split at h
  ·rename_i k;simp at h;subst h;rw[j]at k;cases k;cases g<;>simp only[jY]at c<;>try (simp at c;done)
   split at c
   ·rename_i hk;subst hk;simp at c;subst c;simp only[aA]at e f;subst e;subst f;simp[gx]
   ·simp at c
  ·simp at h
 ·rename_i hs;have:=wU h;rw[j]at this;cases this;cases g<;>simp only[jY]at c<;>try (simp at c;done)
  simp at c;subst c;simp only[aA]at e f;obtain⟨a,rfl,e1⟩:=e;obtain⟨b,rfl,e2⟩:=f;subst e1;subst e2;have n:(ii (fun x:UInt8=>x.toNat) a.data.toList=ii (fun x:UInt8=>x.toNat) b.data.toList)↔a=b:=by
   constructor
   ·intro h;have:=Aj h;apply ByteArray.ext;apply cb;exact this
   ·intro h;rw[h]
  by_cases hc:a=b
  ·subst hc;simp[gx,g7]
  ·have l:¬(ii (fun x:UInt8=>x.toNat) a.data.toList=ii (fun x:UInt8=>x.toNat) b.data.toList):=fun h=>hc (n.1 h);have m:(a==b)=false:=by
    cases o:(a==b)with
    |false=>rfl
    |true=>exact(hc ((g7 a b).1 o)).elim
   simp[gx,l,m]
 ·exact p.elim
 ·simp at h
theorem BH{T:dk}{d:em}(o:P.underlying T=some d){key:PV}{g:dl}(hk:fj P T key=true)(m:jQ key)(l:aA P w aa key g):∀(b:List (PV×PV))(a:List ea)(i:Nat)(r:Option PV),cz P w aa b a->fF P T b key=some r->
 (r=none/\ge d g a i=some none)\/∃v j e,r=some v/\ge d g a i=some (some (i+j,e.val))/\a[j]?=some e/\aA P w aa v e.val/\e.key=g/\
  (∀(x:PV)(k:dl),aA P w aa x k->cz P w aa (fZ b key x) (a.modify j fun e=>{e with key:=g,val:=k}))
 |[],a,i,r,f,h=>by
  simp only[cz]at f;simp[fF]at h;subst f;subst h;exact .inl ⟨rfl,rfl⟩
 |(s,v')::b,a,i,r,f,h=>by
  simp only[cz]at f;obtain⟨e,rest,rfl,n,p,q⟩:=f;simp only[fF,Ci m]at h
  split at h
  ·rename_i c;simp at h;subst h;obtain⟨g1,g2⟩:=yF o hk m c l n;refine .inr ⟨v',0,e,rfl,by simp[ge,g1],rfl,p,(g2 rfl).symm,fun x k hx=>?_⟩;simp only[fZ,c,if_true];simp only[cz];exact⟨_,rest,rfl,l,hx,q⟩
  ·rename_i c;obtain⟨g1,g2⟩:=yF o hk m c l n;rcases BH o hk m l b rest (i+1) r q h with⟨rfl,f1⟩|⟨v,j,e',rfl,f1,f2,f3,f4,f5⟩
   ·exact .inl ⟨rfl,by simp[ge,g1,f1]⟩
   ·refine .inr ⟨v,j+1,e',rfl,by simp[ge,g1,f1];omega,by simpa using f2,f3,f4,fun x k hx=>?_⟩;simp only[fZ,c];rw[if_neg (by simp)];simp only[cz];exact⟨e,_,by simp[List.modify_succ_cons],n,p,f5 x k hx⟩
  ·simp at h
theorem G3{X:Array dl}{y:dk->PV->PV->Option Bool}(e:Bool)(n:Nat):
 ∀(fs:List ee)(l:List Nat)(b:List PV)(r:Bool)(d:List dl)(o:List (List dl)),gL P y (fs.map (·.type)) b b=some r->(∀f∈fs,f.name≠ "_" /\sj P f.type=true)->
 (∀(i:Nat)(f:ee),fs[i]?=some f->f.offset=d.length+(l.take i).sum)->bc P w aa l b o->
 X.toList=d++o.flatten->(forIn fs j8 (fun f _=>if f.name≠ "_" then(do
  let x<-part f.type X f.offset
  gi e (n+1) f.type x
  pure (ForInStep.yield j8))else pure (ForInStep.yield j8):ee->PUnit->Sem (ForInStep PUnit))).run P w=.ok j8 w
 |[],l,b,r,d,o,_,_,_,_,_=>by simp
 |f::fs,l,b,r,d,o,h,s,t,hx,q=>by
  cases b with
  |nil=>simp[gL]at h
  |cons a b=>
   cases l with
   |nil=>simp[bc]at hx
   |cons m l=>
    simp only[hE,gL]at h
    split at h
    case isFalse=>simp at h
    rename_i hk
    split at h
    case h_2=>simp at h
    rename_i I F H z;obtain⟨c,cs,rfl,hc,A,E⟩:=uO hx;obtain⟨C,p⟩:=s f (by simp);have D:f.offset=d.length:=by simpa using t 0 f (by simp)
    obtain⟨x,u,J⟩:=pW hk.1 hc (pre:=d) (post:=cs.flatten) (cs:=X) (by rw[q];simp);rw[<-D]at u;have v:(gi e (n+1) f.type x).run P w=.ok () w:=by
     unfold sj at p;unfold gi
     split at p
     ·rename_i k j;simp[db j]
     ·rename_i j;simp[db j]
     ·rename_i j;simp[db j]
     ·cases p
    have G:=G3 e n fs l b F (d++c) cs z (fun f hf=>s f (by simp[hf])) (by
     intro i g B;have:=t (i+1) g (by simpa using B);rw[this,ik,i0,hC,A];omega) E (by rw[q];simp)
    rw[List.forIn_cons];simp only[C,ne_eq,not_false_eq_true,if_true,hn,u,v,hl,ho];exact G
theorem Rv{T:dk}{cB:Array ee}{u:Nat}{fs:List PV}{g:dl}(b:P.underlying T=some (.struct cB))(j:cB.toList.all (fun f=>f.name != "_" &&sj P f.type)=true)(a:(eZ P 9 T (.st u fs) (.st u fs)).isSome=true)(d:aA P w aa (.st u fs) g)(e:Bool):
 (gi e 10000 T g).run P w=.ok () w:=by
 obtain⟨r,a⟩:=j7.1 a;unfold eZ at a;simp only[b]at a
 split at a
 case isFalse=>simp at a
 rename_i hc;obtain⟨hk,-,-,-⟩:=hc;simp only[aA]at d;obtain⟨l,c,k1,k2,rfl⟩:=d;obtain⟨o,p,s1,s2,q,h,s,k⟩:=tV (P:=P) (T:=T) (u:=u) (n:=cB.size) (by unfold fx;rw[hk,b]);rw[b]at s1;cases s1;rw[k1]at h;cases h;have key:=G3 (w:=w) (aa:=aa) (X:=c.flatten.toArray) e 9998 cB.toList l fs r [] c a (fun f hf=>by
  have:=ip.1 j f hf;simpa using this) (by
   intro i f hf;have hi:i<cB.size:=by
    have:=(hA.1 hf).1;simpa using this
   obtain⟨m,g1,g2,_⟩:=k i hi;rw[cc,g1]at hf;cases hf;simpa using g2) k2 (by simp)
 unfold gi;simp only[hn,db b,hl];rw[<-Array.forIn_toList];rw[key];simp
theorem Bc{T:dk}{u:Nat}{fs:List PV}{g:dl}(p:aA P w aa (.st u fs) g):∀(k:List (PV×PV))(f:List ea)(i:Nat)(r:Option PV),cz P w aa k f->fF P T k (.st u fs)=some r->
 (r=none/\(gg T g f i).run P w=.ok none w/\∀x n born,aA P w aa x n->cz P w aa (fZ k (.st u fs) x) (f++[{key:=g,val:=n,born}]))\/∃(v:PV)(j:Nat)(e:ea),r=some v/\(gg T g f i).run P w=.ok (some (i+j,e.val)) w/\aA P w aa v e.val
 |[],f,i,r,m,h=>by
  simp only[cz]at m;simp[fF]at h;subst m;subst h;refine .inl ⟨rfl,by simp[gg],fun x n born hx=>?_⟩;simp only[fZ,cz];exact⟨_,[],rfl,p,hx,rfl⟩
 |(y,v')::k,f,i,r,m,h=>by
  simp only[cz]at m;obtain⟨e,rest,rfl,s,t,z⟩:=m;simp only[fF]at h;have q:∀b,o5 P T (.st u fs) y=some b->(ha T g e.key).run P w=.ok b w/\jY (.st u fs) y=some b:=by
   intro b l;simp only[o5]at l
   split at l
   ·rename_i a c A hc;cases a<;>cases c<;>simp at l<;>subst l<;>
    ·obtain⟨d,B,hq⟩:=xH T g e.key;rw[hq];exact⟨xL 9 T _ _ _ A _ _ p s _ B,hc⟩
   ·simp at l
  split at h
  ·rename_i o;simp at h;subst h;obtain⟨g1,g2⟩:=q _ o;exact .inr ⟨v',0,e,rfl,by simp[gg,g1],t⟩
  ·rename_i o;obtain⟨g1,g2⟩:=q _ o;rcases Bc p k rest (i+1) r z h with⟨rfl,f1,f2⟩|⟨v,j,e',rfl,f1,f3⟩
   ·refine .inl ⟨rfl,by simp[gg,g1,f1],fun x n born hx=>?_⟩;simp only[fZ,g2];rw[if_neg (by simp)];simp only[cz];exact⟨e,_,rfl,s,t,f2 x n born hx⟩
   ·refine .inr ⟨v,j+1,e',rfl,?_,f3⟩;simp[gg,g1,f1];omega
  ·simp at h
theorem BI{T:dk}{cB:Array ee}(c:P.underlying T=some (.struct cB)){b:dl}{a:List ea}{f:Option (Nat×dl)}(h:(gg T b a 0).run P w=.ok f w):(gj T b a).run P w=.ok f w:=by
 unfold gj;simp only[hn,db c,hl];cases a with
 |nil=>
  simp only[ge];simpa[gg]using h
 |cons e es=>
  have:ge (.struct cB) b (e::es) 0=none:=by simp[ge,gx]
  rw[this];exact h
theorem AH{T:dk}{key:PV}(h:fj P T key=true)(a:¬jQ key):∃u fs cB,key= .st u fs/\P.underlying T=some (.struct cB)/\cB.toList.all (fun f=>f.name != "_" &&sj P f.type)=true/\(eZ P 9 T (.st u fs) (.st u fs)).isSome=true:=by
 cases key<;>first
  |exact(a trivial).elim
  |skip
 rename_i u fs;simp only[fj]at h
 split at h
 ·rename_i cB b;rw[da]at h;exact⟨u,fs,cB,rfl,b,h.1,h.2⟩
 ·cases h
theorem J6{T:dk}{key:PV}{g:dl}(hk:fj P T key=true)(f:aA P w aa key g){b:List (PV×PV)}{a:List ea}{r:Option PV}(l:cz P w aa b a)(h:fF P T b key=some r):
 (∀e,(gi e 10000 T g).run P w=.ok () w)/\
 ((r=none/\(gj T g a).run P w=.ok none w)\/∃(v:PV)(j:Nat)(e:ea),r=some v/\(gj T g a).run P w=.ok (some (j,e.val)) w/\aA P w aa v e.val):=by
 by_cases i:jQ key
 ·obtain⟨d,c,o⟩:=xc hk i f;refine⟨fun e=>run_checkKey c o _ 9999,?_⟩;rcases BH c hk i f b a 0 r l h with⟨rfl,f1⟩|⟨v,j,e,rfl,f1,f2,f3,f4,_⟩
  ·exact .inl ⟨rfl,run_findKey c f1⟩
  ·exact .inr ⟨v,0+j,e,rfl,run_findKey c f1,f3⟩
 ·obtain⟨u,fs,cB,rfl,k,m,n⟩:=AH hk i;refine⟨fun e=>Rv k m n f e,?_⟩;rcases Bc f b a 0 r l h with⟨rfl,f1,_⟩|⟨v,j,e,rfl,f1,f3⟩
  ·exact .inl ⟨rfl,BI k f1⟩
  ·exact .inr ⟨v,0+j,e,rfl,BI k f1,f3⟩
theorem GX{T:dk}{key x:PV}{g i:dl}(d:aA P w aa key g)(hx:aA P w aa x i)(born:Nat):∀(a:List (PV×PV))(c:List ea),jQ key->cz P w aa a c->fF P T a key=some none->cz P w aa (fZ a key x) (c++[{key:=g,val:=i,born}])
 |[],c,_,b,_=>by
  simp only[cz]at b;subst b;simp only[fZ,cz];exact⟨_,[],rfl,d,hx,rfl⟩
 |(n,v')::a,c,f,b,h=>by
  simp only[cz]at b;obtain⟨e,rest,rfl,j,k,l⟩:=b;simp only[fF,Ci f]at h
  split at h
  ·simp at h
  ·rename_i m;simp only[fZ,m];rw[if_neg (by simp)];simp only[cz];exact⟨e,_,rfl,j,k,GX (T:=T) d hx born a rest f l h⟩
  ·simp at h
def sN(ok:Bool)(z:PV):Option PV->PV
 |some v=>if ok then .aD [v,.bool true]else v
 |none=>if ok then .aD [z,.bool false]else z
theorem Tw{T:dk}{c E:dk}{x i:dg}{ok:Bool}{key z:PV}{r:Option PV}{k:List (PV×PV)}(D:o.op= .lookup T x i ok)(g:iT P T=some (c,E))(G:cJ P E=some z)(hk:fj P c key=true)(C:fF P c k key=some r)
 {ρc:dg->dl}(B:aA P w aa key (ρc i))(hx:(ρc x=.map none/\k=[])\/∃b a d,ρc x=.map (some b)/\w.heap[b]?=some (.map a d)/\cz P w aa k a.toList):
 ∃p,(dp ρc o).run P w=.ok (.value p) w/\aA P w aa (sN ok z r) p:=by
 have m:P.underlying T=some (.map c E):=by
  unfold iT at g
  split at g
  ·rename_i F;simp at g;rw[F,g.1,g.2]
  ·simp at g
 obtain⟨u,t,z2⟩:=Ks G;obtain⟨a,s,n⟩:∃a:Array ea,((ρc x=.map none/\a=#[])\/∃b d,ρc x=.map (some b)/\w.heap[b]?=some (.map a d))/\cz P w aa k a.toList:=by
  rcases hx with⟨hx,rfl⟩|⟨b,a,d,hx,h,n⟩
  ·exact⟨#[],.inl ⟨hx,rfl⟩,by simp[cz]⟩
  ·exact⟨a,.inr ⟨b,d,hx,h⟩,n⟩
 obtain⟨l,y⟩:=J6 hk B n C
 have q:∀(f:Option (Nat×dl))(v:dl)(b:Bool),(gj c (ρc i) a.toList).run P w= .ok f w->(f=none/\v=u/\b=false\/∃j,f=some (j,v)/\b=true)->
  (dp ρc o).run P w=.ok (.value (if ok then .tuple #[v,.bool b]else v)) w:=by
  intro f v b hf A;simp only[dp,D];refine eh ?_;rcases A with⟨rfl,rfl,rfl⟩|⟨j,rfl,rfl⟩
  ·rcases s with⟨hx,rfl⟩|⟨b,d,hx,h⟩
   ·have hf:(gj c (ρc i) []).run P w=.ok none w:=hf;cases ok<;>simp[gt,db m,hx,l,hf,t]
   ·cases ok<;>simp[gt,db m,hx,g0 h,l,hf,t]
  ·rcases s with⟨hx,rfl⟩|⟨b,d,hx,h⟩
   ·have hf:(gj c (ρc i) []).run P w=.ok (some (j,v)) w:=hf;cases ok<;>simp[gt,db m,hx,l,hf]
   ·cases ok<;>simp[gt,db m,hx,g0 h,l,hf]
 rcases y with⟨rfl,f1⟩|⟨v,j,e,rfl,f1,f3⟩
 ·refine⟨_,q none u false f1 (.inl ⟨rfl,rfl,rfl⟩),?_⟩;cases ok with
  |true=>simp only[sN,if_true,aA,bn];exact⟨_,⟨_,_,rfl,z2 w aa,_,_,rfl,rfl,rfl⟩,rfl⟩
  |false=>simpa[sN]using z2 w aa
 ·refine⟨_,q _ e.val true f1 (.inr ⟨_,rfl,rfl⟩),?_⟩;cases ok with
  |true=>simp only[sN,if_true,aA,bn];exact⟨_,⟨_,_,rfl,f3,_,_,rfl,rfl,rfl⟩,rfl⟩
  |false=>simpa[sN]using f3
theorem ug{T:dk}{c E:dk}{x g:dg}{ok:Bool}{key z:PV}{r:Option PV}{es:List (PV×PV)}{aj:List (Nat×Obj)}(f:o.op= .lookup T x g ok)(n:iT P T=some (c,E))(u:cJ P E=some z)(hi:ρ g= .p key)(hk:fj P c key=true)(q:fF P c es key=some r)
 (hx:(ρ x=.p .fo/\es=[])\/ρ x=.p (.eK es)\/∃b fz,ρ x=.map b/\(b,.map fz es)∈aj):
 bp P o ρ base {v:=.p (sN ok z r),aj}:=by
 refine bp.same fun H w aa ah β y t i aj=>?_;have a:=(i x (by simp[f,g8])).1;have e:=(i g (by simp[f,g8])).1;rw[hi]at e;simp only[aw]at e;obtain⟨j,c1,c2⟩:=Tw f n u hk q (ρc:=y) (w:=w) (aa:=aa) e (by
  rcases hx with⟨hx,rfl⟩|hx|⟨b,fz,hx,s⟩
  ·rw[hx]at a;simp only[aw,aA]at a;exact .inl ⟨a,rfl⟩
  ·rw[hx]at a;simp only[aw,aA]at a;obtain⟨b,d,clock,_,k,l,m⟩:=a;exact .inr ⟨b,d,clock,m,k,l⟩
  ·rw[hx]at a;simp only[aw,bK,bO]at a;have h:=aj _ s;obtain⟨d,clock,k1,k2,_⟩:=t.cE b _ h;exact .inr ⟨_,d,clock,a.2.1 ⟨_,h,trivial⟩,k1,k2⟩)
 exact⟨j,c1,by simpa only[aw]using c2,by simp[aB]⟩
theorem Tn{T:dk}(e:o.op=.makeMap T none):bp P o ρ base {v:=.map base,aR:=[.map false []]}:=by
 intro H w aa ah β i b j _ d;have a:H[base]?=some .hole:=by simpa using d 0 (by simp)
 have g:(dp i o).run P w=.ok (.value (.map (some w.heap.size))) {w with heap:=w.heap.push (.map #[] 0)}:=by
  simp only[dp,e];exact tT (by simp[Instr.makeMap])
 have f:=rP (cap:=0) b a (ob:=.map #[] 0) (o':=.map false [])
  ⟨#[],0,by simp[Bd.at],by simp[cz],by
   simp only[cw,Bd.at,if_true,c9,if_false];exact⟨fun h=>i8 _ (b.bR _ h),fun h=>i8 _ (b.dS _ h)⟩⟩ trivial
 refine⟨_,_,_,_,aa,g,.inl rfl,f,?_,?_⟩
 ·simp only[aw,bK,bO,kS];exact⟨rfl,fun _=>by simp[Bd.at],fun⟨L,c⟩=>by rw[hB (hA.1 a).1]at c;cases c⟩
 ·simp only[aB,kS];exact⟨_,hB (hA.1 a).1,trivial⟩
theorem B8(f:bP P w aa β H ah){b:Nat}{o o':Obj}(a:H[b]?=some o)(i:o.live)(j:o'.live)(n:∀v,o.has v->o'.has v)(l:∀L,o≠ .loop L){ob:Go.Obj}
 (_hb:β.ak b<w.heap.size)(e:¬aa (β.ak b)/\¬ah (β.ak b))(aK:ch β H β (H.set b o'))
 (p:eQ P {w with heap:=w.heap.setIfInBounds (β.ak b) ob} aa β (H.set b o') ah b o')(q:o'.refs (aG (H.set b o'))):
 bV P ah aa w β H aa {w with heap:=w.heap.setIfInBounds (β.ak b) ob} β (H.set b o'):=by
 refine bV.set f (hA.1 a).1 (fun _ _=>⟨rfl,rfl⟩) (fun _ x=>x) (fun _ x=>.inl x) (fun k hk=>by simpa using f.bR k hk) (by simp)
  (fun k hk _=>?_) (fun _=>.inr ⟨rfl,⟨o,a,i⟩,.inr e.1,e.2⟩) aK p q (fun r v c g=>by rw[a]at c;cases c;exact n v g) (fun L d=>by rw[a]at d;cases d;exact(l L rfl).elim)
 have m:k≠β.ak b:=hk.resolve_right (fun h=>h j);simp[Ne.symm m]
theorem Gw{T t E:dk}{m k x:dg}{b:Nat}{key v:PV}{a:List (PV×PV)}{r:Option PV}(g:o.op= .mapUpdate T m k x\/o.op= .insert T m k x)(z:iT P T=some (t,E))(ac:ρ m= .map b)(hk:ρ k= .p key)(hx:ρ x= .p v)
 (hf:fj P t key=true)(f:lx P t a key=some r):bp P o ρ base {v:=.p (.aD []),aj:=[(b,.map false a)],aJ:=[(b,.map false (fZ a key v))]}:=by
 have N:P.underlying T=some (.map t E):=by
  unfold iT at z
  split at z
  ·rename_i O;simp at z;rw[O,z.1,z.2]
  ·simp at z
 intro H w aa ah β c U Q aj _;have G:H[b]?=some (.map false a):=by simpa using aj
 have M:m∈o.op.operands/\k∈o.op.operands/\x∈o.op.operands:=by
  rcases g with g|g<;>simp[g,g8]
 have l:=(Q m M.1).1;have q:=(Q k M.2.1).1;have B:=(Q x M.2.2).1;rw[ac]at l;rw[hk]at q;rw[hx]at B;simp only[aw,bK,bO]at l q B;have l:=l.2.1 ⟨_,G,trivial⟩;obtain⟨i,clock,k1,k2,k3⟩:=U.cE b _ G;have S:¬aa (β.ak b)/\¬ah (β.ak b):=by
  unfold cw at k3;rw[if_neg (by simp)]at k3;exact k3
 have F:fF P t a key=some r:=by
  by_cases s:jQ key
  ·rw[<-R6 s];exact f
  ·obtain⟨u,fs,cB,rfl,_⟩:=AH hf s;simp only[lx]at f
   split at f
   ·rename_i hq;rw[hq];exact f
   ·cases f
 have K:=(J6 hf q k2 F).1 false;have R:β.ak b<w.heap.size:=(b5.1 k1).1;have aK:ch β H β (H.set b (.map false (fZ a key v))):=oi G (.inr (.inr (.inl ⟨_,_,_,_,rfl,rfl⟩)))
 have J:∀(y:Array ea)(A:Nat),(gm T (c m) (c k) (c x)).run P w= .ok () {w with heap:=w.heap.setIfInBounds (β.ak b) (.map y A)}->cz P w aa (fZ a key v) y.toList->
  ∃n I w' aH aE,(dp c o).run P w=.ok n w'/\(n=.value I\/n=.skip/\I=undef)/\
  bV P ah aa w β H aE w' aH (ba H ([(b,.map false (fZ a key v))]++newAt base []))/\aw P w' aE aH (ba H ([(b,.map false (fZ a key v))]++newAt base [])) (.p (.aD [])) I/\
  aB (aG (ba H ([(b,.map false (fZ a key v))]++newAt base []))) (.p (.aD [])):=by
  intro y A af ad;have X:(dp c o).run P w=.ok .skip {w with heap:=w.heap.setIfInBounds (β.ak b) (.map y A)}:=by
   rcases g with g|g<;>simp[dp,g,af]
  have ag:∀D,aa D->({w with heap:=w.heap.setIfInBounds (β.ak b) (.map y A)}:dq).heap[D]?=w.heap[D]?:=by
   intro D ab;have:β.ak b≠D:=fun W=>S.1 (W▸ab);simp[this]
  refine⟨_,_,_,β,aa,X,.inr ⟨rfl,rfl⟩,?_,by simp[aw,aA,bn,undef],by simp[aB]⟩;simp only[newAt,hF,ba];exact B8 (o':=.map false (fZ a key v)) U G trivial trivial (fun _ h=>h) (fun _ h=>by cases h) R S aK ⟨y,A,by simp[R],cz.mono (fun _ x=>x) ag _ _ ad,k3⟩ trivial
 by_cases s:jQ key
 case neg=>
  obtain⟨u,fs,cB,rfl,O,_,_⟩:=AH hf s;have ae:r=none:=by
   simp only[lx]at f
   split at f
   ·simpa using f.symm
   ·cases f
  subst ae;rcases Bc q a i.toList 0 none k2 F with⟨_,f1,f2⟩|⟨v',j,e,V,_⟩
  ·have C:=BI O f1;refine J (i.push {key:=c k,val:=c x,born:=clock}) (clock+1) ?_ ?_
   ·rw[l];simp only[gm,hn,db N,hl,g0 k1,K,C,run_setObj_map _ k1]
   ·rw[cv];exact f2 v (c x) clock B
  ·cases V
 obtain⟨d,L,Y⟩:=xc hf s q;rcases BH L hf s q a i.toList 0 r k2 F with⟨rfl,f1⟩|⟨v',j,e,rfl,f1,f2,f3,f4,f5⟩
 ·have C:=run_findKey (w:=w) L f1;refine J (i.push {key:=c k,val:=c x,born:=clock}) (clock+1) ?_ ?_
  ·rw[l];simp only[gm,hn,db N,hl,g0 k1,K,C,run_setObj_map _ k1]
  ·rw[cv];exact GX (T:=t) q B clock a i.toList s k2 F
 ·have C:=run_findKey (w:=w) L f1;have Z:i[j]?=some e:=by simpa using f2
  refine J (i.modify j fun e=>{e with key:=c k,val:=c x}) clock ?_ ?_
  ·rw[l];simp only[gm,hn,db N,hl,g0 k1,K,C];simp only[j1,Z,Option.map_some,Option.getD_some,f4,run_keyThatStays Y,hl,run_setObj_map _ k1]
  ·rw[Array.toList_modify];exact f5 v (c x) B
theorem wj{v:PV}:mM v=true->jQ v:=by
 cases v<;>simp[mM,jQ]
theorem QY{b:Nat}{o o':Obj}(e:H[b]?=some o)(i:o.tI)(d:o'.tI):ch β H β (H.set b o'):=by
 have g:b<H.length:=(hA.1 e).1;have a:∀x,x≠b->(H.set b o')[x]?=H[x]?:=fun x hx=>hK (Ne.symm hx);have c:(H.set b o')[b]?=some o':=hB g;refine⟨?_,?_,?_,?_,?_⟩
 ·rintro x _ ⟨fz,t,h⟩;refine⟨?_,rfl⟩
  by_cases hx:x=b
  ·subst hx;rw[c]at h;cases h;exact d.elim
  ·rw[a x hx]at h;exact⟨fz,t,h⟩
 ·rintro x _ ⟨fz,t,h⟩;refine⟨?_,rfl⟩
  by_cases hx:x=b
  ·subst hx;rw[c]at h;cases h;exact d.elim
  ·rw[a x hx]at h;exact⟨fz,t,h⟩
 ·rintro x _ ⟨l,h,j⟩;refine⟨?_,rfl⟩
  by_cases hx:x=b
  ·subst hx;exact⟨o,e,i⟩
  ·rw[a x hx]at h;exact⟨l,h,j⟩
 ·intro x ar ai k f _ h
  by_cases hx:x=b
  ·subst hx;unfold eA at h;rw[c]at h;cases h;exact d.elim
  ·unfold eA at h⊢;rw[a x hx]at h;exact⟨k,f,h,i7 _,Iff.rfl,fun _=>⟨rfl,rfl⟩⟩
 ·rintro x _ ⟨L,h⟩;refine⟨?_,rfl⟩
  by_cases hx:x=b
  ·subst hx;rw[c]at h;cases h;exact d.elim
  ·rw[a x hx]at h;exact⟨L,h⟩
theorem Fb:∀{b:List (PV×PV)}{a:List ea},cz P w aa b a->bn P w aa (b.map (·.1)) (a.map (·.key))/\bw P w aa β H (b.map fun e=>.p e.2) (a.map (·.val))
 |[],a,h=>by
  simp only[cz]at h;subst h;simp[bn,bw]
 |(k,v)::r,a,h=>by
  simp only[cz]at h;obtain⟨e,rest,rfl,c,d,f⟩:=h;obtain⟨i1,i2⟩:=Fb f;simp only[hE,bn,bw];exact⟨⟨_,_,rfl,c,i1⟩,⟨_,_,rfl,by simpa only[aw]using d,i2⟩⟩
theorem QT{b:Nat}{d:Obj}{ks:List PV}{vs:List AV}(h:bP P w aa β H ah)(g:H[b]?=some d)(a:rp d=some (ks,vs)):
 d.tI/\(∃c f,w.heap[β.ak b]?=some (.map c f)/\bn P w aa ks (c.toList.map (·.key))/\bw P w aa β H vs (c.toList.map (·.val))/\cw aa β ah false b)/\aQ (aG H) vs:=by
 cases d<;>simp only[rp]at a<;>try (cases a;done)
 case map fz es=>
  cases fz
  case true=>simp at a
  simp only[Option.some.injEq,Prod.mk.injEq]at a;obtain⟨rfl,rfl⟩:=a;obtain⟨c,f,k1,k2,k3⟩:=h.cE b _ g;obtain⟨i1,i2⟩:=Fb (β:=β) (H:=H) k2;exact⟨trivial,⟨c,f,k1,i1,i2,k3⟩,cG.2 fun v i=>by obtain⟨e,_,rfl⟩:=i4.1 i;trivial⟩
 case dm j k=>
  simp only[Option.some.injEq,Prod.mk.injEq]at a;obtain⟨rfl,rfl⟩:=a;exact⟨trivial,h.cE b _ g,h.refs b _ g⟩
theorem zW{T:dk}{d:em}(n:P.underlying T=some d){key:PV}{o:dl}(hk:fj P T key=true)(g:jQ key)(m:aA P w aa key o):∀(ks:List PV)(vs:List AV)(c:List ea)(i:Nat)(r:Option AV),bn P w aa ks (c.map (·.key))->bw P w aa β H vs (c.map (·.val))->ku P T ks vs key=some r->
 (r=none/\ge d o c i=some none)\/∃(v:AV)(j:Nat)(e:ea),r=some v/\ge d o c i=some (some (i+j,e.val))/\aw P w aa β H v e.val/\v∈vs
 |[],vs,c,i,r,f,k,h=>by
  cases c with
  |nil=>
   cases vs with
   |nil=>simp[ku]at h;subst h;exact .inl ⟨rfl,rfl⟩
   |cons a b=>simp[ku]at h
  |cons a b=>simp[bn]at f
 |u::ks,vs,c,i,r,f,k,h=>by
  cases c with
  |nil=>simp[bn]at f
  |cons e rest=>
   cases vs with
   |nil=>simp[bw]at k
   |cons v' vs=>
    simp only[hE,bn,bw,List.cons.injEq]at f k;obtain⟨_,_,⟨rfl,rfl⟩,p,q⟩:=f;obtain⟨_,_,⟨rfl,rfl⟩,s,t⟩:=k;simp only[ku,Ci g]at h
    split at h
    ·rename_i l;simp at h;subst h;obtain⟨g1,g2⟩:=yF n hk g l m p;exact .inr ⟨v',0,e,rfl,by simp[ge,g1],s,List.mem_cons_self⟩
    ·rename_i l;obtain⟨g1,g2⟩:=yF n hk g l m p;rcases zW n hk g m ks vs rest (i+1) r q t h with⟨rfl,f1⟩|⟨v,j,e',rfl,f1,f3,f4⟩
     ·exact .inl ⟨rfl,by simp[ge,g1,f1]⟩
     ·exact .inr ⟨v,j+1,e',rfl,by simp[ge,g1,f1];omega,f3,hH _ f4⟩
    ·simp at h
def po(ok:Bool)(z:PV):Option AV->AV
 |some v=>if ok then .aD [v,.p (.bool true)]else v
 |none=>.p (if ok then .aD [z,.bool false]else z)
theorem EW{T:dk}{f E:dk}{x k:dg}{ok:Bool}{key z:PV}{r:Option AV}{b:Nat}{ks:List PV}{vs:List AV}(i:o.op= .lookup T x k ok)(c:iT P T=some (f,E))(D:cJ P E=some z)(hi:ρ k= .p key)(hk:fj P f key=true)(n:mM key=true)(B:ku P f ks vs key=some r)
 (hx:ρ x=.map b):bp P o ρ base {v:=po ok z r,aj:=[(b,.dm ks vs)]}:=by
 refine bp.same fun H w aa ah β G s t aj=>?_;have a:=(t x (by simp[i,g8])).1;have g:=(t k (by simp[i,g8])).1;rw[hi]at g;simp only[aw]at g;rw[hx]at a;simp only[aw,bK,bO]at a;have l:H[b]?=some (.dm ks vs):=by simpa using aj
 obtain⟨y,clock,k1,k2,k3,_⟩:=s.cE b _ l;have hrefs:aQ (aG H) vs:=s.refs b _ l;have a:=a.2.1 ⟨_,l,trivial⟩;have q:P.underlying T=some (.map f E):=by
  unfold iT at c
  split at c
  ·rename_i C;simp at c;rw[C,c.1,c.2]
  ·simp at c
 obtain⟨u,F,z2⟩:=Ks D;obtain⟨d,h,A⟩:=xc hk (wj n) g;have m:∀e,(gi e 10000 f (G k)).run P w=.ok () w:=fun e=>run_checkKey h A _ 9999;rcases zW h hk (wj n) g ks vs y.toList 0 r k2 k3 B with⟨rfl,f1⟩|⟨v,j,e,rfl,f1,f3,f4⟩
 ·have hf:=run_findKey (w:=w) h f1;refine⟨if ok then .tuple #[u,.bool false]else u,?_,?_,by cases ok<;>simp[po,aB]⟩
  ·simp only[dp,i];refine eh ?_;cases ok<;>simp[gt,db q,a,g0 k1,m,hf,F]
  ·cases ok with
   |true=>simp only[po,if_true,aw,aA,bn];exact⟨_,⟨_,_,rfl,z2 w aa,_,_,rfl,rfl,rfl⟩,rfl⟩
   |false=>simpa[po,aw]using z2 w aa
 ·have hf:=run_findKey (w:=w) h f1;refine⟨if ok then .tuple #[e.val,.bool true]else e.val,?_,?_,?_⟩
  ·simp only[dp,i];refine eh ?_;cases ok<;>simp[gt,db q,a,g0 k1,m,hf]
  ·cases ok with
   |true=>simp only[po,if_true,aw,bw,aA];exact⟨_,⟨_,_,rfl,f3,_,_,rfl,rfl,rfl⟩,rfl⟩
   |false=>simpa[po]using f3
  ·have:=cG.1 hrefs v f4;cases ok<;>simp[po,aB,aQ,this]
theorem Fa{w:dq}{aa:Nat->Prop}{k:PV}{x:dl}:∀{a:List PV}{l:List dl},bn P w aa a l->aA P w aa k x->bn P w aa (a++[k]) (l++[x])
 |[],l,h,hx=>by simp only[bn]at h;subst h;simp only[h7,bn];exact⟨_,_,rfl,hx,rfl⟩
 |v::a,l,h,hx=>by
  simp only[bn]at h;obtain⟨y,d,rfl,b,c⟩:=h;simp only[List.cons_append,bn];exact⟨_,_,rfl,b,Fa c hx⟩
theorem v7{T i E:dk}{m k x:dg}{b:Nat}{key:PV}{u:Obj}{ks:List PV}{vs:List AV}(c:o.op= .mapUpdate T m k x\/o.op= .insert T m k x)(g:iT P T=some (i,E))(ab:ρ m= .map b)(hk:ρ k= .p key)
 (hf:fj P i key=true)(O:rp u=some (ks,vs))(F:mM key=true)(Z:ku P i ks vs key=some none):bp P o ρ base {v:=.p (.aD []),aj:=[(b,u)],aJ:=[(b,.dm (ks++[key]) (vs++[ρ x]))]}:=by
 have ac:P.underlying T=some (.map i E):=by
  unfold iT at g
  split at g
  ·rename_i ae;simp at g;rw[ae,g.1,g.2]
  ·simp at g
 intro H w aa ah β a G B aj _;have s:H[b]?=some u:=by simpa using aj
 have A:m∈o.op.operands/\k∈o.op.operands/\x∈o.op.operands:=by
  rcases c with c|c<;>simp[c,g8]
 have n:=(B m A.1).1;have q:=(B k A.2.1).1;obtain⟨M,N⟩:=B x A.2.2;rw[ab]at n;rw[hk]at q;simp only[aw,bK,bO]at n q;obtain⟨r,⟨l,clock,k1,k2,k3,k4⟩,af⟩:=QT G s O;have n:=n.2.1 ⟨_,s,r⟩;have D:¬aa (β.ak b)/\¬ah (β.ak b):=by
  unfold cw at k4;rw[if_neg (by simp)]at k4;exact k4
 obtain⟨d,z,W⟩:=xc hf (wj F) q;have R:(gi false 10000 i (a k)).run P w=.ok () w:=run_checkKey z W _ 9999;have C:β.ak b<w.heap.size:=(b5.1 k1).1;have Q:b<H.length:=(hA.1 s).1;have aK:ch β H β (H.set b (.dm (ks++[key]) (vs++[ρ x]))):=QY s r trivial;rcases zW z hf (wj F) q ks vs l.toList 0 none k2 k3 Z with⟨_,f1⟩|⟨v',j,e,L,_⟩
 case inr=>cases L
 have V:=run_findKey (w:=w) z f1;have ad:(gm T (a m) (a k) (a x)).run P w=.ok () {w with heap:=w.heap.setIfInBounds (β.ak b) (.map (l.push {key:=a k,val:=a x,born:=clock}) (clock+1))}:=by
  rw[n];simp only[gm,hn,db ac,hl,g0 k1,R,V,run_setObj_map _ k1]
 have U:(dp a o).run P w=.ok .skip {w with heap:=w.heap.setIfInBounds (β.ak b) (.map (l.push {key:=a k,val:=a x,born:=clock}) (clock+1))}:=by
  rcases c with c|c<;>simp[dp,c,ad]
 have I:∀t,aa t->({w with heap:=w.heap.setIfInBounds (β.ak b) (.map (l.push {key:=a k,val:=a x,born:=clock}) (clock+1))}:dq).heap[t]?=w.heap[t]?:=by
  intro t Y;have:β.ak b≠t:=fun S=>D.1 (S▸Y);simp[this]
 have X:∀y,aG H y->aG (H.set b (.dm (ks++[key]) (vs++[ρ x]))) y:=by
  rintro⟨y,v⟩ ⟨ai,ag,f⟩
  by_cases K:b=y
  ·subst K;exact⟨.dm (ks++[key]) (vs++[ρ x]),by simp only;rw[hB Q],trivial⟩
  ·exact⟨ai,by simp only;rw[hK K];exact ag,f⟩
 have J:aQ (aG H) (vs++[ρ x]):=cG.2 fun v f=>by
  rcases ix.1 f with f|f
  ·exact cG.1 af v f
  ·rw[h4.1 f];exact N
 refine⟨_,_,_,β,aa,U,.inr ⟨rfl,rfl⟩,?_,by simp[aw,aA,bn,undef],by simp[aB]⟩;simp only[newAt,hF,ba];refine B8 (o':=.dm (ks++[key]) (vs++[ρ x])) G s (by cases u<;>first|trivial|exact r.elim) trivial (fun _ _=>trivial) (fun _ h=>by rw[h]at r;exact r.elim) C D aK ⟨l.push {key:=a k,val:=a x,born:=clock},clock+1,by simp[C],?_,?_,k4⟩ (aQ.mono X _ J)
 ·rw[cv,hM];exact bn.mono (fun _ x=>x) I _ _ (Fa k2 q)
 ·rw[cv,hM];refine bw.mono (fun _ x=>x) I aK _ _ J (n6 k3 ?_);simp only[hE,hV,bw];exact⟨_,_,rfl,M,rfl⟩
theorem v8{c:dk}{b:Nat}{key:PV}{x:AV}{a:Obj}{K:aU->Prop}(h:nV P c b key x a K):∃ks vs,rp a=some (ks,vs)/\mM key=true/\ku P c ks vs key=some none/\K {v:=.p (.aD []),aj:=[(b,a)],aJ:=[(b,.dm (ks++[key]) (vs++[x]))]}:=by
 unfold nV at h
 split at h
 ·rename_i ks vs d;exact⟨ks,vs,d,h⟩
 ·exact h.elim
end
section
variable{P:dz}{w:dq}{aa ah:Nat->Prop}{β:Bd}{H:Heap}
variable{o:Oper}{ρ:dg->AV}{base:Nat}
theorem So(bs:ByteArray):fT (iE bs)=bs:=by
 unfold fT iE;apply ByteArray.ext;apply cb;simp only[hW];have:(kc∘fun x:UInt8=>x.toNat)=id:=by funext x;simp
 rw[this];simp
theorem VI{T:dk}{x:dg}{s:List Nat}(d:o.op=.range T x)(hx:ρ x=.p (.str s))(e:ia P T=true):bp P o ρ base {v:=.ptr base [],aR:=[.dv s 0]}:=by
 intro H w aa ah β k b j _ f;have c:H[base]?=some .hole:=by simpa using f 0 (by simp)
 have a:=(j x (by simp[d,g8])).1;rw[hx]at a;simp only[aw,aA]at a;obtain⟨bs,e1,e2⟩:=a;have i:(dp k o).run P w=.ok (.value (.pointer (some ⟨w.heap.size,0,none⟩))) {w with heap:=w.heap.push (.stringIter bs 0)}:=by
  simp only[dp,d,e1];exact tT (by simp[Instr.range,db (wU e)])
 have g:=rP (cap:=0) b c (ob:=.stringIter bs 0) (o':=.dv s 0)
  ⟨bs,by simp[Bd.at],e2,by
   simp only[cw,Bd.at,if_true,c9,if_false];exact⟨fun h=>i8 _ (b.bR _ h),fun h=>i8 _ (b.dS _ h)⟩⟩ trivial
 refine⟨_,_,_,_,aa,i,.inl rfl,g,?_,?_⟩
 ·simp only[aw,bK,bO,kS];exact⟨rfl,_,_,0,rfl,rfl,fun _=>by simp[Bd.at]⟩
 ·simp only[aB,kS];exact⟨_,hB (hA.1 c).1,trivial⟩
theorem aAn{it:dg}{b:Nat}{s:List Nat}{pos:Nat}(g:o.op= .next it true)(hx:ρ it= .ptr b []):
 (pos<s.length->bp P o ρ base {v:=.p (.aD [.bool true,.int .i64 pos,.int .i32 (hr (fT s) pos).1]),aj:=[(b,.dv s pos)],aJ:=[(b,.dv s (pos+(hr (fT s) pos).2))]})/\
 (¬pos<s.length->bp P o ρ base {v:=.p (.aD [.bool false]),aj:=[(b,.dv s pos)]}):=by
 have key:∀{H:Heap}{w:dq}{aa ah:Nat->Prop}{β:Bd}{e:dg->dl},bP P w aa β H ah->(∀x∈o.op.operands,aw P w aa β H (ρ x) (e x)/\aB (aG H) (ρ x))->H[b]?=some (.dv s pos)->
  e it=.pointer (some ⟨β.ak b,0,none⟩)/\∃bs:ByteArray,w.heap[β.ak b]?=some (.stringIter bs pos)/\s=iE bs/\(¬aa (β.ak b)/\¬ah (β.ak b)):=by
  intro H w aa ah β e d f a;have c:=(f it (by simp[g,g8])).1;rw[hx]at c;simp only[aw,bK,bO]at c;obtain⟨_,ak,off,t,m,k,n⟩:=c;simp[fN]at k;subst k;obtain⟨rfl,rfl⟩:=n (.inr ⟨_,_,a⟩);obtain⟨bs,k1,k2,k3⟩:=d.cE b _ a;unfold cw at k3;rw[if_neg (by simp)]at k3;exact⟨m,bs,k1,k2,k3⟩
 constructor
 ·intro i H w aa ah β e d f aj _;have a:H[b]?=some (.dv s pos):=by simpa using aj
  obtain⟨c,bs,k1,rfl,k3⟩:=key d f a;have j:pos<bs.size:=by simpa[iE]using i
  have l:β.ak b<w.heap.size:=(b5.1 k1).1;rw[So];have r:(dp e o).run P w=.ok (.value (.tuple #[.bool true,goInt pos,.int .i32 (hr bs pos).1])) {w with heap:=w.heap.setIfInBounds (β.ak b) (.stringIter bs (pos+(hr bs pos).2))}:=by
   simp only[dp,g,c];refine tT ?_;simp[gy,getObj,setObj,hp,k1,hm,j]
  have aK:ch β H β (H.set b (.dv (iE bs) (pos+(hr bs pos).2))):=oi a (.inr (.inr (.inr ⟨_,_,_,rfl,rfl⟩)));have q:=B8 (o':=.dv (iE bs) (pos+(hr bs pos).2)) (ob:=.stringIter bs (pos+(hr bs pos).2)) d a trivial trivial (fun _ h=>h) (fun _ h=>by cases h) l k3 aK
   ⟨bs,by simp[l],rfl,by unfold cw;rw[if_neg (by simp)];exact k3⟩ trivial
  refine⟨_,_,_,β,aa,r,.inl rfl,?_,?_,by simp[aB]⟩
  ·simpa only[newAt,hF,ba]using q
  ·simp only[aw,aA,bn];exact⟨_,⟨_,_,rfl,rfl,_,_,rfl,rfl,_,_,rfl,rfl,rfl⟩,rfl⟩
 ·intro i;refine bp.same fun H w aa ah β e d f aj=>?_;have a:H[b]?=some (.dv s pos):=by simpa using aj
  obtain⟨c,bs,k1,rfl,k3⟩:=key d f a;have j:¬pos<bs.size:=by simpa[iE]using i
  refine⟨.tuple #[.bool false],?_,by simp only[aw,aA,bn];exact⟨_,⟨_,_,rfl,rfl,rfl⟩,rfl⟩,by simp[aB]⟩;simp only[dp,g,c];refine eh ?_;simp[gy,getObj,hp,k1,hm,j]
theorem VJ{T u:dk}{x:dg}{f:Nat}{fs:Array ee}{t g:PV}{F:dk}(h:o.op= .field T x f)(hk:kindOf P T= .agg u)(b:P.underlying T=some (.struct fs))(hx:ρ x= .p t)(hs:aL t= .agg u)(e:(cB t)[f]?=some g)(q:(jc P u)[f]?=some F)(r:kindOf P F=aL g):
 bp P o ρ base {v:=.p g}:=by
 refine bp.same fun H w aa ah β K E z _=>?_;have a:=(z x (by simp[h,g8])).1;rw[hx]at a;simp only[aw]at a;cases t<;>simp[aL]at hs;rename_i u' m;subst hs;simp only[cB]at e;simp only[aA]at a;obtain⟨l,d,k1,k2,k3⟩:=a;obtain⟨D,G,s1,s2,I,j,J,A⟩:=tV (P:=P) (T:=T) (u:=u') (n:=fs.size) (by unfold fx;rw[hk,b]);rw[b]at s1;cases s1;rw[k1]at j;cases j;have s:bJ P w aa ⟨id,id⟩ [] l (m.map .p) d:=mZ.2 k2;obtain⟨pre,c,post,e1,e2,e3,e4,e5,_⟩:=sc (f:=.p g) (i:=f) s (by simp[e]);simp only[bm]at e5;obtain⟨C,g1,g2,g3,g4,g5⟩:=A f (by omega);rw[q]at g5;cases g5;obtain⟨y,k,B⟩:=pW r e5 (pre:=pre) (post:=post) (cs:=d.flatten.toArray) (by simpa using e1);refine⟨y,?_,by simpa only[aw]using B,by simp[aB]⟩;simp only[dp,h,k3];refine eh ?_;rw[e2,<-g2]at k;simp only[Instr.field,hn,db b,hl,g1];simp[asAgg,k]
theorem S2{T u:dk}{n:Nat}{x k:dg}{Q:en}{i:Int}{a:List PV}{g:PV}{F:dk}(j:o.op= .index T x k)(B:gK P T=some (u,n))(hx:ρ x= .p (.st u a))(hi:ρ k= .p (.int Q i))
 (A:0<=i)(K:i.toNat<n)(h:(jc P u)[i.toNat]?=some F)(G:a[i.toNat]?=some g)(I:kindOf P F=aL g):bp P o ρ base {v:=.p g}:=by
 refine bp.same fun H w aa ah β U S t _=>?_;have b:=(t x (by simp[j,g8])).1;have d:=(t k (by simp[j,g8])).1;rw[hx]at b;rw[hi]at d;simp only[aw,aA]at b d;obtain⟨l,m,k1,k2,k3⟩:=b;obtain⟨e,s,hk,r,L⟩:=rV B;rw[k1]at r;cases r;have C:F=e:=by
  obtain⟨E,_,_⟩:=AF hk;have D:(P.info? u).map (fun i:TypeInfo=>i.desc)=some (.array n e):=by rw[E,<-Am,s]
  unfold jc at h;rw[D]at h;have q:(hD n e)[i.toNat]?=some F:=h;rw[List.getElem?_replicate,if_pos K]at q;exact(Option.some.inj q).symm
 subst C;have M:bJ P w aa ⟨id,id⟩ [] (hD n (P.cellsOf F)) (a.map .p) m:=mZ.2 k2;obtain⟨pre,c,post,e1,e2,e3,e4,e5,_⟩:=sc (f:=.p g) (i:=i.toNat) M (by simp[G]);simp only[bm]at e5;obtain⟨y,z,R⟩:=pW I e5 (pre:=pre) (post:=post) (cs:=m.flatten.toArray) (by simpa using e1);have N:((hD n (P.cellsOf F)).take i.toNat).sum=i.toNat*P.cellsOf F:=by rw[List.take_replicate,Nat.min_eq_left (by omega),List.sum_replicate_nat]
 have O:(sizeOf F).run P w=.ok (P.cellsOf F) w:=by
  cases hi:P.info? F with
  |none=>simp[Program.cellsOf,hi]at L
  |some i=>simp[sizeOf,typeInfo,hi,Program.cellsOf]
 refine⟨y,?_,by simpa only[aw]using R,by simp[aB]⟩;simp only[dp,j,k3,d];refine eh ?_;have J:i<(n:Int):=by omega
 rw[e2,N]at z;simp only[Instr.index,asIntOf,hn,ho,db s,hl];simp[A,J,O,z]
theorem GH{k:en}{f:Bool}{ρc:dg->dl}:∀(l:List dg)(a n:Int),ld k f (l.map ρ) a=some n->(∀x∈l,aw P w aa β H (ρ x) (ρc x))->
 ((l.map ρc).foldlM (if f then fb else e9) (.int k a)).run P w=.ok (.int k n) w
 |[],a,n,h,_=>by simp[ld]at h;subst h;simp
 |x::l,a,n,h,g=>by
  simp only[hE]at h;unfold ld at h
  split at h
  ·rename_i e;cases e
  ·rename_i j b r a' e;simp at e;obtain⟨e1,rfl⟩:=e
   split at h
   case isFalse=>simp at h
   rename_i hk;subst hk;have d:=g x (by simp);rw[e1]at d;simp only[aw,aA]at d;have c:=GH l _ n h (fun y i=>g y (by simp[i]));simp only[hE,List.foldlM_cons,hn,d];cases f with
   |true=>simp only[if_true,fb,ho,hl]at c⊢;exact c
   |false=>simp only[c9,if_false,e9,ho,hl]at c⊢;exact c
  ·simp at h
theorem Ia{c:Call}{isMax:Bool}{k:en}{a n:Int}{r:List AV}(m:o.op= .call c)(hc:c.callee= .builtin (if isMax then .max else .min))(b:c.args.toList.map ρ= .p (.int k a)::r)(h:ld k isMax r a=some n):
 bp P o ρ base {v:=.p (.int k n)}:=by
 obtain⟨x,l,i⟩:∃x l,c.args.toList=x::l:=by
  cases s:c.args.toList with
  |nil=>rw[s]at b;simp at b
  |cons x l=>exact⟨x,l,rfl⟩
 rw[i]at b;simp at b;obtain⟨hx,rfl⟩:=b;have g:c.args=(x::l).toArray:=by apply cb;simpa using i
 have j:∀y∈x::l,y∈o.op.operands:=by
  intro y f;rw[m];simp only[g8,gc,hc,g];simpa using f
 refine bp.same fun H w aa ah β t u q _=>⟨.int k n,?_,by simp[aw,aA],by simp[aB]⟩
 have d:=(q x (j x (by simp))).1;rw[hx]at d;simp only[aw,aA]at d;have e:=GH (ρc:=t) l a n h (fun y f=>(q y (j y (by simp[f]))).1);simp only[dp,m,resolve,hc,g];cases isMax with
 |true=>
  simp only[if_true]at e⊢;simp[invoke,builtin,fm,d,e]
 |false=>
  simp only[c9,if_false]at e⊢;simp[invoke,builtin,fl,d,e]
theorem aAj{c:Call}{d x:dg}{sz b ar off len:Nat}{k:AK}{f g:List AV}{H0:Heap}(V:o.op= .call c)(hc:c.callee= .builtin .copy)(Q:c.args.toList=[d,x])(au:c.argTypes.size=2)(t:cL P (c.argTypes.getD 0 0)=some sz)
 (ad:ρ d=.sl b ar sz off len)(hx:gw H0 (ρ x)=some g)(aq:eH P sz g)(hk:k≠.frozen)(G:off+len<=f.length)(C:¬c7 k f):
 bp P o ρ base {v:=.p (.int .i64 (min g.length len:Nat)),aj:=(b,.arr k ar sz f)::dy H0 (ρ x),aJ:=[(b,.arr k ar sz (f.take off++g.take (min g.length len)++f.drop (off+min g.length len)))]}:=by
 obtain⟨T,X,O⟩:∃T X,c.argTypes=#[T,X]:=by
  obtain⟨l,G⟩:∃l,l=c.argTypes.toList:=⟨_,rfl⟩
  have s:l.length=2:=by rw[G];simpa using au
  match l,s with
  |[a,b],_=>exact⟨a,b,by apply cb;simp[<-G]⟩
 have I:d∈o.op.operands/\x∈o.op.operands:=by
  have ac:c.args=#[d,x]:=by apply cb;simpa using Q
  rw[V];simp[g8,gc,hc,ac]
 have e1:c.argTypes.getD 0 0=T:=by rw[O];rfl
 rw[e1]at t;obtain⟨e,i,t⟩:=jJ t;intro H w aa ah β ab D M aj _;have r:H[b]?=some (.arr k ar sz f):=aj (b,_) (by simp);have j:=(M d I.1).1;rw[ad]at j;simp only[aw,bK,bO]at j;obtain⟨_,_,j⟩:=j.2 k f r;have j:=j C;rcases D.cE b _ r with hold|⟨cs,E,aE,rest,k1,k2,k3,k4,k5,k6,k7,k8⟩
 ·exact(C hold).elim
 have S:¬aa (β.ak b)/\¬ah (β.ak b):=by
  unfold cw at k7;rw[if_neg (by simpa using hk)]at k7;exact k7
 obtain⟨aD,ax,ay,az,aC⟩:=uH (oV hx (fun p am=>aj p (hH _ am))) D (M x I.2).1 (M x I.2).2 aq;obtain⟨n,U⟩:∃n,n=min g.length len:=⟨_,rfl⟩
 rw[<-U];have Z:=aC w rfl n (by omega);obtain⟨y,m,z,g1,g2,g3,g4,g5⟩:=jq ax 0 n (by omega);have av:y=[]:=by have:=(fB g4).1;simpa using this
 subst av;have ai:aD.take n=m:=by
  have:=(fB g2).1;rw[g1];simp at this⊢;rw[List.take_left' (by omega)]
 rw[ai]at Z;simp only[h8]at g2;obtain⟨a,N,q,f1,f2,f3,f4,f5⟩:=jq k2 off n (by omega);have J:m.flatten.length=n*sz:=by have:=(fB g2).2;rw[this];congr 1;simp;omega
 have K:N.flatten.length=n*sz:=by have:=(fB f2).2;rw[this];congr 1;simp;omega
 have R:cs.toList=a.flatten++N.flatten++(q.flatten++rest):=by rw[k3,f1];simp
 have Y:cs.size=a.flatten.length+N.flatten.length+(q.flatten++rest).length:=by
  have:=congrArg h6 R;simp only[hC,ce]at this;rw[this,hC]
 have L:=ej P (β.ak b) (off*sz) E m.flatten 0 cs w k1 (by rw[Y,f3,J,K];simp only[jp];exact js _ _) (uN g2);simp only[jp]at L;have aR:cs.toList.take (off*sz)++m.flatten++cs.toList.drop (off*sz+m.flatten.length)=a.flatten++m.flatten++(q.flatten++rest):=by
  rw[R,<-f3,J,<-K];exact An _ _ _ _
 rw[aR]at L;have ao:(e8 c.argTypes o.type #[ab d,ab x]).run P w=.ok (goInt n) (w.setRow (β.ak b) (a.flatten++m.flatten++(q.flatten++rest)).toArray):=by
  rw[O,j];have ak:Nat.min g.length len=n:=U.symm;have aF:∀(p:Option Addr)(n c:Nat),fv (.slice p n c)=pure n:=fun _ _ _=>rfl;simp[e8,db t.fU,az,ak,t.run,Z,L]
 have B:(f.take off++g.take n++f.drop (off+n)).length=f.length:=by simp;omega
 have aK:ch β H β (H.set b (.arr k ar sz (f.take off++g.take n++f.drop (off+n)))):=oi r (.inr (.inl ⟨_,_,_,_,_,rfl,rfl,B.symm⟩));have ap:∀A,aa A->(w.setRow (β.ak b) (a.flatten++m.flatten++(q.flatten++rest)).toArray).heap[A]?=w.heap[A]?:=fun A ag=>eb w _ A _ (fun F=>S.1 (F▸ag));have hrefs:aQ (aG H) (f.take off++g.take n++f.drop (off+n)):=by
  have W:=cG.1 (D.refs b _ r);refine jo (jo ?_ ?_) ?_
  ·rw[cG];exact fun v u=>W v (hL u)
  ·rw[cG];exact fun v u=>cG.1 ay v (hL u)
  ·rw[cG];exact fun v u=>W v (hR u)
 have ae:=lj r (o:=.arr k ar sz (f.take off++g.take n++f.drop (off+n))) (fun _ h=>h);have al:¬c7 k (f.take off++g.take n++f.drop (off+n)):=fun h=>C ⟨h.1,by have s:=h.2;rw[<-hT]at s⊢;rw[B]at s;exact s⟩;have an:=pq D r C (o':=.arr k ar sz (f.take off++g.take n++f.drop (off+n))) al (fun _ h=>h) k1 (new:=(a.flatten++m.flatten++(q.flatten++rest)).toArray) S aK
  (.inr ⟨_,E,a++m++q,rest,ec w _ _ _ E _ k1,by
   refine Row.mono (fun _ x=>x) ap aK hrefs (kx.2 ⟨_,_,rfl,kx.2 ⟨_,_,rfl,f4,g2⟩,f5⟩),by simp,by
   rw[<-k4,Y];simp only[hN,hC,J,K],by rw[B];exact k5,fun F=>by rw[B];exact k6 F,k7,(fun af=>(hk af).elim),k8.2⟩) (aQ.mono ae _ hrefs)
 refine⟨_,_,_,β,aa,UJ V hc Q ao,.inl rfl,?_,by simp[aw,aA,goInt],by simp[aB]⟩;simpa only[newAt,hF,ba]using an
end
section
variable{P:dz}{w:dq}{aa ah:Nat->Prop}{β:Bd}{H:Heap}
variable{o:Oper}{ρ:dg->AV}{base:Nat}
theorem x9{c:Call}{x:dg}(e:o.op=.call c){b:Builtin}(hc:c.callee=.builtin b)(d:c.args.toList=[x]):x∈o.op.operands/\c.args=#[x]:=by
 have a:c.args=#[x]:=by apply cb;simpa using d
 refine⟨?_,a⟩;rw[e];simp only[g8,gc,hc,a];simp
theorem wT{T:dk}{a:AV}(h:gF P T a=true)(hs:(∃b v e i l,a=.sl b v e i l)\/a=.p .aF\/∃f c,a=.p (.bI f c)):∃e,P.underlying T=some (.slice e):=by
 rcases hs with⟨b,v,e,i,l,rfl⟩|rfl|⟨f,c,rfl⟩<;>
 ·simp only[gF]at h
  split at h
  ·rename_i e d;exact⟨e,d⟩
  ·simp at h
theorem aAi{c:Call}{x:dg}{n:Nat}{aj:List (Nat×Obj)}{H0:Heap}(y:o.op= .call c)(hc:c.callee= .builtin .cap)(A:c.args.toList=[x])(a:yW H0 (ρ x)=some (n,aj))(m:gF P (c.argTypes.getD 0 0) (ρ x)=true)(F:0<c.argTypes.size):
 bp P o ρ base {v:=.p (.int .i64 n),aj}/\(∀p∈aj,H0[p.1]?=some p.2):=by
 obtain⟨q,B⟩:=x9 y hc A;have C:c.argTypes[0]?=some (c.argTypes.getD 0 0):=by simp[cy,F]
 generalize c.argTypes.getD 0 0=T at*
 have j:∀{H:Heap}{w:dq}{aa:Nat->Prop}{β:Bd}{f:dg->dl},(∃p l,f x= .slice p l n)->(∃e,P.underlying T=some (.slice e))->
  ∃s,(dp f o).run P w=.ok (.value s) w/\aw P w aa β H (.p (.int .i64 n)) s/\aB (aG H) (.p (.int .i64 n)):=by
  rintro H w aa β f ⟨p,l,hx⟩ ⟨e,G⟩;refine⟨goInt n,?_,by simp[aw,aA,goInt],by simp[aB]⟩;simp only[dp,y,resolve,hc,B];simp[invoke,builtin,fK,C,hx,db G]
 unfold yW at a
 split at a
 ·rename_i hx;simp at a;obtain⟨rfl,rfl⟩:=a;refine⟨bp.same fun H w aa ah β f r g aj=>j ?_ (wT m (.inr (.inl hx))),by simp⟩;have d:=(g x q).1;rw[hx]at d;simp only[aw,aA]at d;exact⟨_,_,d⟩
 ·rename_i i hx;simp at a;obtain⟨rfl,rfl⟩:=a;refine⟨bp.same fun H w aa ah β f r g aj=>j ?_ (wT m (.inr (.inr ⟨_,_,hx⟩))),by simp⟩;have d:=(g x q).1;rw[hx]at d;simp only[aw,aA]at d;obtain⟨_,_,cap,_,_,_,_,_,z,_,_,_,k⟩:=d;exact⟨_,_,by rw[k,z trivial]⟩
 ·rename_i b ar ai off len hx
  split at a
  case h_2=>simp at a
  rename_i L K i E
  split at a
  case isFalse=>simp at a
  rename_i D;obtain⟨rfl,rfl,hle⟩:=D;simp at a;obtain⟨rfl,rfl⟩:=a;refine⟨bp.same fun H w aa ah β f r g aj=>j ?_ (wT m (.inl ⟨_,_,_,_,_,hx⟩)),by simpa using E⟩;have u:H[b]?=some (.arr .exact ar ai i):=by simpa using aj
  have d:=(g x q).1;rw[hx]at d;simp only[aw,bK,bO]at d;obtain⟨_,_,k⟩:=d.2 _ _ u;have t:¬c7 .exact i:=fun h=>by simp[c7,AK.gr]at h
  rcases r.cE b _ u with hold|⟨cs,I,J,rest,k1,k2,k3,k4,k5,k6,_⟩
  ·exact(t hold).elim
  exact⟨_,_,by rw[k t,k6 rfl]⟩
 ·simp at a
theorem RM{c:Call}{x:dg}(b:o.op= .call c)(hc:c.callee= .builtin .clear)(f:c.args.toList=[x])(hx:ρ x= .p .aF)(d:gF P (c.argTypes.getD 0 0) (ρ x)=true)(j:0<c.argTypes.size):
 bp P o ρ base {v:=.p (.aD [])}:=by
 obtain⟨i,g⟩:=x9 b hc f;have h:c.argTypes[0]?=some (c.argTypes.getD 0 0):=by simp[cy,j]
 generalize c.argTypes.getD 0 0=T at*;obtain⟨e,k⟩:=wT d (.inr (.inl hx));refine bp.same fun H w aa ah β n m l aj=>?_;have a:=(l x i).1;rw[hx]at a;simp only[aw,aA]at a;refine⟨.tuple #[],?_,by simp[aw,aA,bn],by simp[aB]⟩;simp only[dp,b,resolve,hc,g];simp[invoke,builtin,ew,h,a,db k]
theorem VK{c:Call}{x:dg}{sz b ar off len:Nat}{k:AK}{d:List AV}{z:PV}(M:o.op= .call c)(hc:c.callee= .builtin .clear)(W:c.args.toList=[x])(al:0<c.argTypes.size)(l:cL P (c.argTypes.getD 0 0)=some sz)
 (am:cJ P (dN P (c.argTypes.getD 0 0))=some z)(av:bF P (aL z)=sz)(hx:ρ x=.sl b ar sz off len)(hk:k≠.frozen)(ad:off+len<=d.length)(t:¬c7 k d)(au:0<len):
 bp P o ρ base {v:=.p (.aD []),aj:=[(b,.arr k ar sz d)],aJ:=[(b,.arr k ar sz (d.take off++hD len (.p z)++d.drop (off+len)))]}:=by
 obtain⟨ae,X⟩:=x9 M hc W;have Y:c.argTypes[0]?=some (c.argTypes.getD 0 0):=by simp[cy,al]
 obtain⟨e,i,l⟩:=jJ l;obtain⟨ax,r,U,z2,z3,z4⟩:=nZ am;rw[l.pj]at U;intro H w aa ah β V D ap aj _;have j:H[b]?=some (.arr k ar sz d):=aj (b,_) (by simp);have g:=(ap x ae).1;rw[hx]at g;simp only[aw,bK,bO]at g;obtain⟨_,_,g⟩:=g.2 k d j;have g:=g t;rcases D.cE b _ j with hold|⟨cs,u,aq,rest,k1,k2,k3,k4,k5,k6,k7,k8⟩
 ·exact(t hold).elim
 have K:¬aa (β.ak b)/\¬ah (β.ak b):=by
  unfold cw at k7;rw[if_neg (by simpa using hk)]at k7;exact k7
 have Q:=z3 w aa;have R:r.cells.size=sz:=by have:=(mW Q).1;simp at this;omega
 have ao:r.cells.toList.length=sz:=by simpa using R
 have E:=tW (β:=β) (H:=H) Q len;rw[ao]at E;obtain⟨m,L⟩:∃m,m=hD len r.cells.toList:=⟨_,rfl⟩
 rw[<-L]at E;have F:Row P w aa β H sz (hD len (.p z)) m:=by
  exact E
 obtain⟨a,I,f,f1,f2,f3,f4,f5⟩:=jq k2 off len ad;have B:m.flatten.length=len*sz:=by have:=(fB F).2;rw[this];simp
 have C:I.flatten.length=len*sz:=by have:=(fB f2).2;rw[this];congr 1;simp;omega
 have J:cs.toList=a.flatten++I.flatten++(f.flatten++rest):=by rw[k3,f1];simp
 have O:cs.size=a.flatten.length+I.flatten.length+(f.flatten++rest).length:=by
  have:=congrArg h6 J;simp only[hC,ce]at this;rw[this,hC]
 have G:=ej P (β.ak b) (off*sz) u m.flatten 0 cs w k1 (by rw[O,f3,B,C];simp only[jp];exact js _ _) (uN F);simp only[jp]at G;have aR:cs.toList.take (off*sz)++m.flatten++cs.toList.drop (off*sz+m.flatten.length)=a.flatten++m.flatten++(f.flatten++rest):=by
  rw[J,<-f3,B,<-C];exact An _ _ _ _
 rw[aR]at G;have an:(e7 r.cells len).toList=m.flatten:=by
  have:=xa r.cells len (by rw[R];exact l.pos);rw[L,<-this];rfl
 have ai:(dp V o).run P w=.ok (.value (.tuple #[])) (w.setRow (β.ak b) (a.flatten++m.flatten++(f.flatten++rest)).toArray):=by
  obtain⟨S,rfl⟩:∃S,len=S+1:=⟨len-1,by omega⟩
  simp only[dp,M,resolve,hc,X];generalize c.argTypes.getD 0 0=T at*;simp only[hn,ho,hl,invoke,builtin,hS,hE,hV];have key:(ew c.argTypes o.type #[V x]).run P w=.ok (.tuple #[]) (w.setRow (β.ak b) (a.flatten++m.flatten++(f.flatten++rest)).toArray):=by
   simp[ew,Y,g,db l.fU,rN U z2,an,G]
  rw[key];rfl
 have s:(d.take off++hD len (AV.p z)++d.drop (off+len)).length=d.length:=by simp;omega
 have aK:ch β H β (H.set b (.arr k ar sz (d.take off++hD len (.p z)++d.drop (off+len)))):=oi j (.inr (.inl ⟨_,_,_,_,_,rfl,rfl,s.symm⟩));have ak:∀q,aa q->(w.setRow (β.ak b) (a.flatten++m.flatten++(f.flatten++rest)).toArray).heap[q]?=w.heap[q]?:=fun q ac=>eb w _ q _ (fun A=>K.1 (A▸ac));have hrefs:aQ (aG H) (d.take off++hD len (AV.p z)++d.drop (off+len)):=by
  have N:=cG.1 (D.refs b _ j);refine jo (jo ?_ ?_) ?_
  ·rw[cG];exact fun v n=>N v (hL n)
  ·rw[cG];intro v n;rw[List.eq_of_mem_replicate n];simp[aB]
  ·rw[cG];exact fun v n=>N v (hR n)
 have Z:=lj j (o:=.arr k ar sz (d.take off++hD len (.p z)++d.drop (off+len))) (fun _ h=>h);have af:¬c7 k (d.take off++hD len (AV.p z)++d.drop (off+len)):=fun h=>t ⟨h.1,by have y:=h.2;rw[<-hT]at y⊢;rw[s]at y;exact y⟩;have ag:=pq D j t (o':=.arr k ar sz (d.take off++hD len (AV.p z)++d.drop (off+len))) af (fun _ h=>h) k1 (new:=(a.flatten++m.flatten++(f.flatten++rest)).toArray) K aK
  (.inr ⟨_,u,a++m++f,rest,ec w _ _ _ u _ k1,by
   refine Row.mono (fun _ x=>x) ak aK hrefs (kx.2 ⟨_,_,rfl,kx.2 ⟨_,_,rfl,f4,F⟩,f5⟩),by simp,by
   rw[<-k4,O];simp only[hN,hC,B,C],by rw[s];exact k5,fun A=>by rw[s];exact k6 A,k7,(fun ab=>(hk ab).elim),k8.2⟩) (aQ.mono Z _ hrefs)
 refine⟨_,_,_,β,aa,ai,.inl rfl,?_,by simp[aw,aA,bn],by simp[aB]⟩;simpa only[newAt,hF,ba]using ag
theorem Ar{c:Call}{x:dg}{v:AV}{aj:List (Nat×Obj)}{H0:Heap}(l:o.op= .call c)(hc:c.callee= .builtin .unsafeSliceData)(n:c.args.toList=[x])
 (h:(ρ x=.p .aF/\v=.p .dD/\aj=[])\/∃b ar ai off len k a,ρ x=.sl b ar ai off len/\H0[b]?=some (.arr k ar ai a)/\aj=[(b,.arr k ar ai a)]/\((c7 k a/\v=.p .dD)\/(0<len/\off+len<=a.length/\v=.b6 b ar ai off []))):
 bp P o ρ base {v,aj}:=by
 obtain⟨s,q⟩:=x9 l hc n;refine bp.same fun H w aa ah β m t y r=>?_;obtain⟨d,i⟩:=y x s;have g:∀f,(fd c.argTypes o.type #[m x]).run P w=.ok f w->(dp m o).run P w=.ok (.value f) w:=by
  intro f u;simp only[dp,l,resolve,hc,q];simp only[hn,ho,hl,invoke,builtin,hS,hE,hV];rw[u];rfl
 rcases h with⟨hx,rfl,rfl⟩|⟨b,ar,ai,off,len,k,a,hx,D,rfl,h⟩
 ·rw[hx]at d;simp only[aw,aA]at d;exact⟨_,g _ (by rw[d];exact Lib.run_unsafeSliceData_nil w _ _ _ _),by simp[aw,aA],by simp[aB]⟩
 ·have j:H[b]?=some (.arr k ar ai a):=by simpa using r
  rw[hx]at d i;simp only[aw,bK,bO]at d;obtain⟨_,v2,v3⟩:=d.2 k a j;rcases h with⟨e,rfl⟩|⟨E,hle,rfl⟩
  ·exact⟨_,g _ (by rw[v2 e];exact Lib.run_unsafeSliceData_nil w _ _ _ _),by simp[aw,aA],by simp[aB]⟩
  ·have e:¬c7 k a:=fun h=>by rw[h.2]at hle;simp at hle;omega
   rcases t.cE b _ j with hold|⟨cs,z,A,rest,k1,k2,k3,k4,k5,_⟩
   ·exact(e hold).elim
   refine⟨_,g _ (by rw[v3 e];exact Lib.run_unsafeSliceData_row w _ _ _ _ _ (by omega)),?_,by simpa only[aB]using i⟩;simp only[aw,bK,bO];refine⟨by simp[ht],β.ak b,off*ai,0,by simp,rfl,fun F B C _=>⟨rfl,by simp⟩⟩
theorem U4(w:dq)(a:Addr)(n:Nat):(w.freeze a n).os=w.os/\(w.freeze a n).output=w.output:=by
 unfold hw
 first|exact⟨rfl,rfl⟩|(split<;>exact⟨rfl,rfl⟩)
theorem UX{w':dq}(j:bP P w aa β H ah){b:Nat}{o:Obj}(i:H[b]?=some o)(v:o.live)(g:¬aa (β.ak b)/\¬ah (β.ak b))(C:∀L,o≠ .loop L)(D:w'.heap.size=w.heap.size)
 (hs:∀k,k≠β.ak b->w'.heap[k]?=w.heap[k]?)(B:w'.os=w.os/\w'.output=w.output:=by exact⟨rfl,rfl⟩):bV P ah aa w β H aa w' β (H.set b .dead):=by
 have n:b<H.length:=(hA.1 i).1;have c:∀(x:Nat)(a:Obj),(H.set b Obj.dead)[x]?=some a->a≠.dead->H[x]?=some a:=by
  intro x a hx q
  by_cases l:b=x
  ·subst l;rw[hB n]at hx;cases hx;exact(q rfl).elim
  ·rwa [hK l]at hx
 have aK:ch β H β (H.set b .dead):=by
  refine⟨?_,?_,?_,?_,?_⟩
  ·rintro x _ ⟨f,t,h⟩;exact⟨⟨f,t,c _ _ h (by simp)⟩,rfl⟩
  ·rintro x _ ⟨f,t,h⟩;exact⟨⟨f,t,c _ _ h (by simp)⟩,rfl⟩
  ·rintro x _ ⟨E,h,p⟩;exact⟨⟨E,c _ _ h (fun e=>by rw[e]at p;exact p.elim),p⟩,rfl⟩
  ·intro x ar ai k y _ h;exact⟨k,y,c _ _ h (by simp),i7 _,Iff.rfl,fun _=>⟨rfl,rfl⟩⟩
  ·rintro x _ ⟨L,h⟩;exact⟨⟨L,c _ _ h (by simp)⟩,rfl⟩
 have m:bV P ah aa w β H aa w β (H.set b .dead):=
  bV.set j n (fun _ _=>⟨rfl,rfl⟩) (fun _ x=>x) (fun _ x=>.inl x) j.bR (i7 _) (fun _ _ _=>rfl) (fun h=>h.elim) aK trivial trivial (fun _ _ _ _=>trivial) (fun L s=>by rw[i]at s;cases s;exact(C L rfl).elim)
 have hx:=j.l7 i v;have z:=m.rel.I5 hx (fun x a r d u=>by
  have q:a≠.dead:=fun e=>by rw[e]at d;exact d
  have l:x=b:=j.inj x b a o (c _ _ r q) i d v (fun hi=>g.1 (u▸hi)) u;subst l;rw[hB n]at r;cases r;exact d)
 have A:=z.shut (w':=w') (Prot0:=ah) (fun _ h=>.inl h) (R:=fun k=>k=β.ak b) (fun x e=>⟨.inr e,e▸g.1⟩) D (fun k hk=>hs k hk);refine⟨fun _ h=>h,fun _ h=>.inl h,⟨by omega,fun k hk=>hs k (fun e=>?_),B⟩,aK,A,m.eL,m.loop⟩;rcases hk with hk|hk
 ·exact g.2 (e▸hk)
 ·exact g.1 (e▸hk)
theorem A7:∀{d:List AV}{l:List Nat}{b:List (List dl)},bytesOf d=some l->Row P w aa β H 1 d b->b.flatten=l.map (fun c=>hv .u8 (c:Nat))/\l.length=d.length/\∀c∈l,c<256
 |[],l,b,h,a=>by
  simp[bytesOf]at h;subst h;rw[gT]at a;subst a;simp
 |v::d,l,b,h,a=>by
  unfold bytesOf at h
  split at h
  ·rename_i e;cases e
  ·rename_i c r e;simp at e;obtain⟨rfl,rfl⟩:=e
   split at h
   case isFalse=>simp at h
   rename_i hc
   split at h
   case h_2=>simp at h
   rename_i m i;simp at h;subst h;rw[pD]at a;obtain⟨j,cs,rfl,f,k,g⟩:=a;obtain⟨i1,i2,i3⟩:=A7 i g;simp only[bm,aS]at f;subst f;refine⟨by simp[i1];omega,by simp[i2],?_⟩;intro x hx;rcases hG.1 hx with rfl|hx
   ·omega
   ·exact i3 x hx
  ·simp at h
theorem R0{S D e:dk}{x:dg}{b ar off len:Nat}{k:AK}{d:List AV}{l:List Nat}(r:o.op= .convert S D x)(B:P.underlying S=some (.slice e))(y:P.underlying D=some .string)(A:P.underlying e=some (.int .u8))(hx:ρ x= .sl b ar 1 off len)
 (M:0<len)(j:off+len<=d.length)(E:bytesOf ((d.drop off).take len)=some l):bp P o ρ base {v:=.p (.str l),aj:=[(b,.arr k ar 1 d)]}:=by
 refine bp.same fun H w aa ah β N G J aj=>?_;have q:H[b]?=some (.arr k ar 1 d):=by simpa using aj
 have f:=(J x (by simp[r,g8])).1;rw[hx]at f;simp only[aw,bK,bO]at f;have n:¬c7 k d:=fun h=>by rw[h.2]at j;simp at j;omega
 have f:=(f.2 _ _ q).2.2 n;rcases G.cE b _ q with hold|⟨cs,K,L,rest,k1,k2,k3,k4,k5,k6,k7,k8⟩
 ·exact(n hold).elim
 obtain⟨a,m,z,g1,g2,g3,g4,g5⟩:=jq k2 off len j;obtain⟨s,t,u⟩:=A7 E g2;have F:l.length=len:=by rw[t];simp;omega
 have C:cs.toList=a.flatten++(l.map (fun c=>hv .u8 (c:Nat))++(z.flatten++rest)):=by
  rw[k3,g1];simp only[h3,hO,s]
 have I:=run_convert_bytes_arg (P:=P) w S e B A (β.ak b) (off*1) len (β.cap b-off) (l.map fun c:Nat=>(c:Int)) (by simpa using F) (fun i hi=>by
  have g:i<l.length:=by omega
  have:cs[off*1+i]?=some (.int .u8 (l[i]:Nat)):=by
   rw[<-cc,C,List.getElem?_append_right (by omega),g3,Nat.add_sub_cancel_left,h9 (by simpa using g),h5,ih g];rfl
  rw[List.getD_eq_getElem?_getD,h5,ih g];simp only[hz,k1];simpa using this) D y
 refine⟨.string (strOfNums (l.map fun c:Nat=>(c:Int))),?_,?_,by simp[aB]⟩
 ·simp only[dp,r,f];exact eh I
 ·simp only[aw,aA];refine⟨_,rfl,?_⟩;rw[strOfNums_data,hW,hW]
  conv=>lhs;rw[<-i5 l]
  refine h0 fun c hc=>?_;have:=u c hc;simp[j9];omega
theorem Rn{c:Call}{x y:dg}{b ar n:Nat}{d:List AV}{l:List Nat}{T X:dk}(F:o.op= .call c)(hc:c.callee= .builtin .unsafeString)(N:c.args.toList=[x,y])(ac:c.argTypes=#[T,X])(hx:ρ x= .b6 b ar 1 0 [])(ae:ρ y= .p (.int .i64 n))
 (ai:0<n)(C:n<=d.length)(al:n<=9223372036854775807)(M:P.underlying T=some (.pointer Gl.u8))(ad:P.cellsOf Gl.u8=1)(W:bytesOf (d.take n)=some l):
 bp P o ρ base {v:=.p (.str l),aj:=[(b,.arr .bytes ar 1 d)],aJ:=[(b,.dead)]}:=by
 have s:c.args=#[x,y]:=by apply cb;simpa using N
 have D:x∈o.op.operands/\y∈o.op.operands:=by
  rw[F];simp[g8,gc,hc,s]
 intro H w aa ah β r G I aj _;have q:H[b]?=some (.arr .bytes ar 1 d):=by simpa using aj
 have e:=(I x D.1).1;have f:=(I y D.2).1;rw[hx]at e;rw[ae]at f;simp only[aw,bK,bO,aA]at e f;have i:¬c7 .bytes d:=fun h=>by rw[h.2]at C;simp at C;omega
 obtain⟨_,ak,off,am,Y,E,e⟩:=e;simp[fN]at E;subst E;obtain⟨rfl,rfl⟩:=e _ _ q i;rcases G.cE b _ q with hold|⟨cs,af,ag,rest,k1,k2,k3,k4,k5,k6,k7,k8⟩
 ·exact(i hold).elim
 obtain rfl:=k8.2 rfl;have U:¬aa (β.ak b)/\¬ah (β.ak b):=by
  unfold cw at k7;rw[if_neg (by simp)]at k7;exact k7
 obtain⟨a,m,z,g1,g2,g3,g4,g5⟩:=jq k2 0 n (by omega);have O:a=[]:=by have:=(fB g4).1;simpa using this
 subst O;rw[h8]at g2;obtain⟨J,K,L⟩:=A7 W g2;obtain⟨bs,u⟩:∃bs:List UInt8,bs=l.map kc:=⟨_,rfl⟩
 have g:bs.length=n:=by rw[u];simp[K];omega
 have t:bs.map (·.toNat)=l:=by
  rw[u,hW]
  conv=>rhs;rw[<-i5 l]
  refine h0 fun c hc=>?_;have:=L c hc;simp[j9];omega
 have A:cs.toList=bs.map (fun c=>hv .u8 c.toNat)++(z.flatten++rest):=by
  rw[k3,g1];simp only[h7,h3,hO,J];congr 1;rw[<-t,hW];rfl
 have ab:=Lib.run_unsafeString_row (P:=P) w T X o.type Gl.u8 M ad (β.ak b) cs.size (by simp[World.shape?,k1]) bs (fun h=>by rw[h]at g;simp at g;omega) (by
  have:=congrArg h6 A;simp only[ce,hC,iz]at this;omega) (by omega) (fun j v B=>by
  have V:j<bs.length:=(hA.1 B).1;rw[jO];have:cs[j]?=some (.int .u8 v.toNat):=by
   rw[<-cc,A,h9 (by simpa using V),h5,B];rfl
  simp[hz,k1,this])
 have Q:(dp r o).run P w=.ok (.value (.string ⟨bs.toArray⟩)) (w.freeze ⟨β.ak b,0,none⟩ bs.length):=by
  simp only[dp,F,resolve,hc,s];simp only[hn,ho,hl,invoke,builtin,hS,hE,hV];have key:(e6 c.argTypes o.type #[r x,r y]).run P w=.ok (.string ⟨bs.toArray⟩) (w.freeze ⟨β.ak b,0,none⟩ bs.length):=by
   rw[ac,Y,f,<-g];simpa using ab
  rw[key];rfl
 have S:∀k,k≠β.ak b->(w.freeze ⟨β.ak b,0,none⟩ bs.length).heap[k]?=w.heap[k]?:=by
  intro k hk;unfold hw
  split
  ·rfl
  ·simp[Array.getElem?_modify,Ne.symm hk]
 have R:(w.freeze ⟨β.ak b,0,none⟩ bs.length).heap.size=w.heap.size:=by
  unfold hw
  split<;>simp
 have Z:=UX G q i U (fun _ h=>by cases h) R S (U4 _ _ _);refine⟨_,_,_,β,aa,Q,.inl rfl,?_,?_,by simp[aB]⟩
 ·simpa only[newAt,hF,ba]using Z
 ·simp only[aw,aA];exact⟨_,rfl,by simpa using t.symm⟩
theorem Rj{c:Call}{x y:dg}{T X:dk}(f:o.op= .call c)(hc:c.callee= .builtin .unsafeString)(i:c.args.toList=[x,y])(j:c.argTypes=#[T,X])(hx:ρ x= .p .dD)(k:ρ y= .p (.int .i64 0)):
 bp P o ρ base {v:=.p (.str [])}:=by
 have d:c.args=#[x,y]:=by apply cb;simpa using i
 have e:x∈o.op.operands/\y∈o.op.operands:=by
  rw[f];simp[g8,gc,hc,d]
 refine bp.same fun H w aa ah β h l g aj=>?_;have a:=(g x e.1).1;have b:=(g y e.2).1;rw[hx]at a;rw[k]at b;simp only[aw,aA]at a b;refine⟨.string .empty,?_,by simp only[aw,aA];exact⟨_,rfl,rfl⟩,by simp[aB]⟩;simp only[dp,f,resolve,hc,d];simp only[hn,ho,hl,invoke,builtin,hS,hE,hV];have key:(e6 c.argTypes o.type #[h x,h y]).run P w=.ok (.string .empty) w:=by
  rw[j,a,b];exact Lib.run_unsafeString_none w _ _ _ _
 rw[key];rfl
end
section
variable{P:dz}
theorem Cu{c:Call}{ρ:dg->AV}{x:AV}(a:c.args.toList.map ρ=[x]):∃y,c.args.toList=[y]/\ρ y=x:=by
 match b:c.args.toList with
 |[]=>rw[b]at a;simp at a
 |[y]=>rw[b]at a;simp at a;exact⟨y,rfl,a⟩
 |_::_::_=>rw[b]at a;simp at a
theorem HW{c:Call}(h:c.argTypes.size=2):∃T X,c.argTypes=#[T,X]:=by
 obtain⟨l,d⟩:∃l,l=c.argTypes.toList:=⟨_,rfl⟩
 have e:l.length=2:=by rw[d];simpa using h
 match l,e with
 |[a,b],_=>exact⟨a,b,by apply cb;simp[<-d]⟩
theorem nX(ag:ed->Bool):kU P ag:=by
 intro o ρ H K _ h;unfold fp at h;have plain:∀{e:aU},K e->bp P o ρ H.length e->e.aj=[]->e.aJ=[]->∃e,K e/\bp P o ρ H.length e/\(∀p∈e.aj,H[p.1]?=some p.2)/\(∀p∈e.aJ,p.1<H.length/\p.2≠.hole):=by
  intro e A B G I;exact⟨e,A,B,by simp[G],by simp[I]⟩
 cases q:o.op<;>simp only[q]at h
 case move x=>exact plain h (O7 (.inl q)) rfl rfl
 case assign x=>exact plain h (O7 (.inr q)) rfl rfl
 case pick c a b=>
  split at h
  ·rename_i t hc;exact plain h (aAo q hc) rfl rfl
  ·exact h.elim
 case alloc T=>
  split at h
  ·rename_i z N;exact plain h.2.2.2 (VM q N h.2.2.1) rfl rfl
  ·exact h.elim
 case box T x=>exact plain h.2.2.2 (aAh q h.2.1 h.2.2.1) rfl rfl
 case build T parts=>
  split at h
  ·rename_i u z hk N
   split at h
   ·rename_i l C;obtain⟨A,B,G⟩:=h;exact plain G (VL q hk N C A B) rfl rfl
   ·exact h.elim
  ·exact h.elim
 case buildSlice T n parts=>
  split at h
  ·rename_i sz z V N;obtain⟨A,B,G,I⟩:=h;exact plain I (RN q V N A B G) rfl rfl
  ·exact h.elim
 case load T a=>exact aAm q h
 case store T a x=>exact Wp q h
 case binOp b T x y aG=>
  obtain⟨v,A,B⟩:=aAg (base:=H.length) q h;exact⟨_,A,B,mO,by simp⟩
 case unOp u T x=>
  split at h
  ·rename_i b hx;exact plain h (Dy q hx (.inl ⟨rfl,_,rfl,rfl⟩)) rfl rfl
  ·rename_i k n hx;exact plain h (Dy q hx (.inr (.inl ⟨rfl,_,_,rfl,rfl⟩))) rfl rfl
  ·rename_i k n hx;exact plain h (Dy q hx (.inr (.inr ⟨rfl,_,_,rfl,rfl⟩))) rfl rfl
  ·exact h.elim
 case convert S D x=>
  split at h
  ·rename_i d k k0 n ab aa hx;exact plain h (Tp q ⟨_,ab⟩ aa hx) rfl rfl
  ·rename_i d s ab aa hx;exact plain h (To q ⟨_,ab⟩ aa hx) rfl rfl
  ·rename_i e b ar ai off len ab aa hx
   split at h
   case h_2=>exact h.elim
   rename_i k ak af U w;obtain⟨rfl,rfl,rfl,V,al,hle,h⟩:=h
   split at h
   case h_2=>exact h.elim
   rename_i l C;exact⟨_,h,R0 q ab aa V hx al hle C,by simpa using w,by simp⟩
  ·exact h.elim
 case extract t i=>
  split at h
  ·rename_i vs ap
   split at h
   ·rename_i v aq;exact plain h (HM q (.inr ⟨_,ap,rfl⟩) (by simp[aq])) rfl rfl
   ·exact h.elim
  ·rename_i vs ap
   split at h
   ·rename_i v aq;exact plain h (HM q (.inl ap) aq) rfl rfl
   ·exact h.elim
  ·exact h.elim
 case fieldAddr T a f=>
  obtain⟨e,A,B,G,I⟩:=RZ (base:=H.length) q h;exact plain A B G I
 case indexAddr T x i=>
  obtain⟨e,A,B,G,I⟩:=RY (base:=H.length) q h;exact⟨e,A,B,G,by simp[I]⟩
 case field T x f=>
  split at h
  ·rename_i u fs t hk aA hx;obtain⟨A,h⟩:=h
   split at h
   ·rename_i g F ao am;exact plain h.2 (VJ q hk aA hx A ao am h.1) rfl rfl
   ·exact h.elim
  ·exact h.elim
 case index T x i=>
  split at h
  ·rename_i s k n hx hi;obtain⟨A,B,G,I⟩:=h;exact plain I (S1 q hx hi A B G) rfl rfl
  ·rename_i u U k n hx hi
   split at h
   ·rename_i u' m F g J am ao;obtain⟨rfl,al,ac,hk,h⟩:=h;exact plain h (S2 q J hx hi al ac am ao hk) rfl rfl
   ·exact h.elim
  ·exact h.elim
 case makeFunc fn fi ca=>
  cases fn<;>simp only at h
  case func f=>
   obtain⟨m1,m2,m3⟩:=S0 (ρ:=ρ) (base:=H.length) q
   split at h
   ·split at h
    ·rename_i a b aj aJ j an;obtain⟨q1,ad,aF⟩:=m3 H a b aj aJ j an;exact⟨_,h,q1,ad,aF⟩
    ·exact h.elim
   ·split at h
    ·rename_i a b j an;exact plain h (m1 a b j an) rfl rfl
    ·exact plain h m2 rfl rfl
 case makeSlice T l c=>
  split at h
  ·rename_i sz z aH c' V N C hc;obtain⟨A,B,rfl,I,O⟩:=h;exact plain O (RX q V N C hc A B I) rfl rfl
  ·exact h.elim
 case slice T x lo hi aB=>
  cases aB with
  |none=>
   obtain⟨e,A,B,G,I⟩:=VH (base:=H.length) q h;exact⟨e,A,B,G,by simp[I]⟩
  |some m=>
   obtain⟨e,A,B,G,I⟩:=Ux (base:=H.length) q h;exact⟨e,A,B,G,by simp[I]⟩
 case makeMap T r=>
  cases r<;>simp only at h;exact plain h (Tn q) rfl rfl
 case lookup T x i ok=>
  split at h
  case h_2=>exact h.elim
  rename_i ae E key J hi
  split at h
  case h_2=>exact h.elim
  rename_i z N;obtain⟨hk,h⟩:=h
  split at h
  ·rename_i hx;exact plain h (ug (r:=none) (es:=[]) q J N hi hk rfl (.inl ⟨hx,rfl⟩)) rfl rfl
  ·rename_i U hx
   split at h
   ·rename_i v C;exact plain h (ug (r:=some v) q J N hi hk C (.inr (.inl hx))) rfl rfl
   ·rename_i C;exact plain h (ug (r:=none) q J N hi hk C (.inr (.inl hx))) rfl rfl
   ·exact h.elim
  ·rename_i b hx
   split at h
   case h_3=>exact h.elim
   ·rename_i fz U w
    split at h
    ·rename_i v C;exact⟨_,h,ug (r:=some v) q J N hi hk C (.inr (.inr ⟨b,fz,hx,by simp⟩)),by simpa using w,by simp⟩
    ·rename_i C;exact⟨_,h,ug (r:=none) q J N hi hk C (.inr (.inr ⟨b,fz,hx,by simp⟩)),by simpa using w,by simp⟩
    ·exact h.elim
   ·rename_i ks vs w;obtain⟨Q,h⟩:=h
    split at h
    ·rename_i v C;exact⟨_,h,EW (r:=some v) q J N hi hk Q C hx,by simpa using w,by simp⟩
    ·rename_i C;exact⟨_,h,EW (r:=none) q J N hi hk Q C hx,by simpa using w,by simp⟩
    ·exact h.elim
  ·exact h.elim
 case mapUpdate T m k x=>
  split at h
  case h_3=>exact h.elim
  ·rename_i ae E b key v J W hk hx;obtain⟨hf,h⟩:=h
   split at h
   case h_3=>exact h.elim
   ·rename_i U w
    split at h
    case h_2=>exact h.elim
    rename_i r C;exact⟨_,h,Gw (.inl q) J W hk hx hf C,by simpa using w,by simpa using(hA.1 w).1⟩
   ·rename_i ks vs w;obtain⟨au,av,j,Q,C,h⟩:=v8 h;rw[<-hx]at h;exact⟨_,h,v7 (.inl q) J W hk hf j Q C,by simpa using w,by simpa using(hA.1 w).1⟩
  ·rename_i ae E b key J W hk _;obtain⟨hf,h⟩:=h
   split at h
   case h_2=>exact h.elim
   rename_i aE w;obtain⟨au,av,j,Q,C,h⟩:=v8 h;exact⟨_,h,v7 (.inl q) J W hk hf j Q C,by simpa using w,by simpa using(hA.1 w).1⟩
 case insert T m k x=>
  split at h
  case h_3=>exact h.elim
  ·rename_i ae E b key v J W hk hx;obtain⟨hf,h⟩:=h
   split at h
   case h_3=>exact h.elim
   ·rename_i U w
    split at h
    case h_2=>exact h.elim
    rename_i r C;exact⟨_,h,Gw (.inr q) J W hk hx hf C,by simpa using w,by simpa using(hA.1 w).1⟩
   ·rename_i ks vs w;obtain⟨au,av,j,Q,C,h⟩:=v8 h;rw[<-hx]at h;exact⟨_,h,v7 (.inr q) J W hk hf j Q C,by simpa using w,by simpa using(hA.1 w).1⟩
  ·rename_i ae E b key J W hk _;obtain⟨hf,h⟩:=h
   split at h
   case h_2=>exact h.elim
   rename_i aE w;obtain⟨au,av,j,Q,C,h⟩:=v8 h;exact⟨_,h,v7 (.inr q) J W hk hf j Q C,by simpa using w,by simpa using(hA.1 w).1⟩
 case range T x=>
  split at h
  ·rename_i s hx;exact plain h.2 (VI q hx h.1) rfl rfl
  ·exact h.elim
 case next it isStr=>
  cases isStr<;>simp only at h
  split at h
  case h_2=>exact h.elim
  rename_i b hx
  split at h
  case h_2=>exact h.elim
  rename_i s pos w;obtain⟨aC,aD⟩:=aAn (P:=P) (base:=H.length) (s:=s) (pos:=pos) q hx
  split at h
  ·rename_i Y;exact⟨_,h,aC Y,by simpa using w,by simpa using(hA.1 w).1⟩
  ·rename_i Y;exact⟨_,h,aD Y,by simpa using w,by simp⟩
 case nilCheck x=>
  split at h
  ·rename_i b p hx;exact plain h (Ap q (.inl ⟨b,p,hx⟩)) rfl rfl
  ·rename_i b v e i p hx;exact plain h (Ap q (.inr (.inl ⟨b,v,e,i,p,hx⟩))) rfl rfl
  ·rename_i t hx;exact plain h (Ap q (.inr (.inr ⟨t,hx⟩))) rfl rfl
  ·exact h.elim
 case call c=>
  split at h
  case h_2=>exact h.elim
  rename_i b hc
  split at h
  ·rename_i x j
   split at h
   case h_2=>exact h.elim
   rename_i n aj C;obtain⟨A,B,G⟩:=h;obtain⟨y,M,rfl⟩:∃y,c.args.toList=[y]/\ρ y=x:=by
    match L:c.args.toList with
    |[]=>rw[L]at j;simp at j
    |[y]=>rw[L]at j;simp at j;exact⟨y,rfl,j⟩
    |_::_::_=>rw[L]at j;simp at j
   obtain⟨q1,ad⟩:=aAl (P:=P) (base:=H.length) q hc M C A B;exact⟨_,G,q1,ad,by simp⟩
  ·rename_i s x j;obtain⟨y,z,M,rfl,rfl⟩:∃y z,c.args.toList=[y,z]/\ρ y=s/\ρ z=x:=by
    match L:c.args.toList with
    |[]=>rw[L]at j;simp at j
    |[y]=>rw[L]at j;simp at j
    |[y,z]=>rw[L]at j;simp at j;exact⟨y,z,rfl,j.1,j.2⟩
    |_::_::_::_=>rw[L]at j;simp at j
   exact Uz q hc M h.1 h.2
  ·rename_i k a r j
   split at h
   ·rename_i n ac;exact plain h (Ia (isMax:=false) q hc j ac) rfl rfl
   ·exact h.elim
  ·rename_i k a r j
   split at h
   ·rename_i n ac;exact plain h (Ia (isMax:=true) q hc j ac) rfl rfl
   ·exact h.elim
  ·rename_i d x j;obtain⟨y,z,M,ay,rfl⟩:∃y z,c.args.toList=[y,z]/\ρ y=d/\ρ z=x:=by
    match L:c.args.toList with
    |[]=>rw[L]at j;simp at j
    |[y]=>rw[L]at j;simp at j
    |[y,z]=>rw[L]at j;simp at j;exact⟨y,z,rfl,j.1,j.2⟩
    |_::_::_::_=>rw[L]at j;simp at j
   split at h
   case h_2=>exact h.elim
   rename_i sz b ar ai off len aI V hx;obtain⟨rfl,A,B,h⟩:=h
   split at h
   case h_2=>exact h.elim
   rename_i k ak af U w;obtain⟨rfl,rfl,G,I,O,Z⟩:=h;refine⟨_,Z,aAj q hc M B V ay hx A G I O,?_,by simpa using(hA.1 w).1⟩;intro p Y;rcases hG.1 Y with rfl|Y
   ·exact w
   ·exact mO p Y
  ·rename_i x j;obtain⟨y,M,rfl⟩:=Cu j
   split at h
   case h_2=>exact h.elim
   rename_i n aj C;obtain⟨A,B,G⟩:=h;obtain⟨q1,ad⟩:=aAi (P:=P) (base:=H.length) q hc M C A B;exact⟨_,G,q1,ad,by simp⟩
  ·rename_i x j;obtain⟨y,M,R⟩:=Cu j
   split at h
   ·rw[<-R]at h;exact plain h.2.2 (RM q hc M R h.1 h.2.1) rfl rfl
   ·split at h
    ·rename_i b ar ai off len sz z k ak af U V N w;obtain⟨rfl,rfl,rfl,A,B,G,I,O,Z,ax⟩:=h;exact⟨_,ax,VK q hc M O V N A R B G I Z,by simpa using w,by simpa using(hA.1 w).1⟩
    ·exact h.elim
   ·exact h.elim
  ·rename_i x j;obtain⟨y,M,R⟩:=Cu j
   split at h
   ·exact plain h (Ar (H0:=H) q hc M (.inl ⟨R,rfl,rfl⟩)) rfl rfl
   ·split at h
    ·rename_i b ar ai off len k ak af U w;obtain⟨rfl,rfl,h⟩:=h;rcases h with⟨A,B,G⟩|⟨A,B,G⟩
     ·exact⟨_,G,Ar q hc M (.inr ⟨_,_,_,_,_,_,_,R,w,rfl,.inl ⟨⟨A,B⟩,rfl⟩⟩),by simpa using w,by simp⟩
     ·exact⟨_,G,Ar q hc M (.inr ⟨_,_,_,_,_,_,_,R,w,rfl,.inr ⟨A,B,rfl⟩⟩),by simpa using w,by simp⟩
    ·exact h.elim
   ·exact h.elim
  ·rename_i x n j;obtain⟨y,z,M,R,aw⟩:∃y z,c.args.toList=[y,z]/\ρ y=x/\ρ z=.p (.int .i64 n):=by
    match L:c.args.toList with
    |[]=>rw[L]at j;simp at j
    |[y]=>rw[L]at j;simp at j
    |[y,z]=>rw[L]at j;simp at j;exact⟨y,z,rfl,j.1,j.2⟩
    |_::_::_::_=>rw[L]at j;simp at j
   split at h
   ·obtain⟨rfl,A,B⟩:=h;obtain⟨T,X,ah⟩:=HW A;exact plain B (Rj q hc M ah R aw) rfl rfl
   ·split at h
    ·rename_i b ar ai i ak af U w;obtain⟨rfl,rfl,rfl,rfl,A,B,G,I,O,Z,h⟩:=h;obtain⟨T,X,ah⟩:=HW I
     split at h
     ·rename_i l C;obtain⟨m,rfl⟩:=Int.eq_ofNat_of_zero_le (by omega:0<=n);simp only[Int.toNat_natCast]at B C;have J:P.underlying T=some (.pointer Gl.u8):=by
       rw[ah]at O;simp only[ptrTo]at O
       split at O
       ·rename_i e az;simp at O;rw[<-O];exact az
       ·simp at O
      exact⟨_,h,Rn q hc M ah R aw (by omega) B (by omega) J Z C,by simpa using w,by simpa using(hA.1 w).1⟩
     ·exact h.elim
    ·exact h.elim
   ·exact h.elim
  ·exact h.elim
end
section
variable{P:dz}{ag:ed->Bool}{n:Nat}
theorem IW{o o':Obj}(h:lF o=some o'):lF o'=some o':=by
 unfold lF at h
 split at h
 ·simp at h;subst h;rfl
 ·rename_i k ar ai b
  split at h
  ·simp at h
  ·split at h
   ·rename_i l a;simp at h;subst h;simp[lF,AK.gr,a]
   ·simp at h
 ·simp at h;subst h;rfl
 ·simp at h
theorem Yt{w:dq}{aa ah:Nat->Prop}{β:Bd}{H:Heap}(d:bP P w aa β H ah){b:Nat}{o o':Obj}(c:H[b]?=some o)(hf:lF o=some o'):
 ∃aE,bV P ah aa w β H aE w β (H.set b o')/\aE (β.ak b):=by
 unfold lF at hf
 split at hf
 ·rename_i fz t;simp at hf;subst hf;obtain⟨cs,T,g,i,j,m⟩:=d.cE b _ c;have aK:ch β H β (H.set b (.box true (.p t))):=rz c (.inl ⟨_,_,_,rfl,rfl⟩);exact rE d c trivial (o':=.box true (.p t)) trivial (fun _ h=>h) (fun _ h=>by cases h) aK j.sG
   (fun aE hi l=>⟨cs,T,g,bm.mono hi (fun _ _=>rfl) aK _ _ (by simp[aB]) i,l,fun _=>trivial,m.2⟩) (by simp[Obj.refs,aB])
 ·rename_i k ar ai f
  split at hf
  ·simp at hf
  ·rename_i q
   split at hf
   case h_2=>simp at hf
   rename_i C z;simp at hf;subst hf;have r:=lg z;rcases d.cE b _ c with hold|⟨cs,T,u,rest,g,i,j,m,x,A,y,B⟩
   ·exact(q hold).elim
   have s:¬c7 .frozen f:=fun h=>by cases h.1
   have aK:ch β H β (H.set b (.arr .frozen ar ai f)):=rz c (.inr (.inl ⟨_,_,_,_,_,rfl,rfl,q,s⟩));exact rE d c q (o':=.arr .frozen ar ai f) s (fun _ h=>h) (fun _ h=>by cases h) aK y.sG
    (fun aE hi l=>.inr ⟨cs,T,u,rest,g,bJ.mono hi (fun _ _=>rfl) aK _ _ _ (d.refs b _ c) i,j,m,x,(fun h=>by cases h),l,fun _ e n=>(by rw[r]at n;simp at n;obtain⟨a,_,rfl⟩:=n;trivial),fun h=>by cases h⟩)
    (by rw[r];exact iM _ _)
 ·rename_i fz f;simp at hf;subst hf;obtain⟨v,clock,g,i,j⟩:=d.cE b _ c;have aK:ch β H β (H.set b (.map true f)):=rz c (.inr (.inr ⟨_,_,_,rfl,rfl⟩));exact rE d c trivial (o':=.map true f) trivial (fun _ h=>h) (fun _ h=>by cases h) aK j.sG
   (fun aE hi l=>⟨v,clock,g,cz.mono hi (fun _ _=>rfl) _ _ i,l⟩) trivial
 ·simp at hf
theorem Hc{w:dq}{ah:Nat->Prop}{β:Bd}{H0:Heap}:∀(bs:List Nat){aj aJ:List (Nat×Obj)}{H:Heap}{aa:Nat->Prop},kC H0 bs=some (aj,aJ)->bP P w aa β H ah->
 (∀p∈aj,∃c,H[p.1]?=some c/\lF c=lF p.2)->∃aE,bV P ah aa w β H aE w β (ba H aJ)/\∀b∈bs,aE (β.ak b)
 |[],aj,aJ,H,aa,h,a,_=>by
  simp[kC]at h;obtain⟨rfl,rfl⟩:=h;exact⟨aa,bV.refl a,by simp⟩
 |b::bs,aj,aJ,H,aa,h,a,hc=>by
  simp only[kC]at h
  split at h
  case h_2=>simp at h
  rename_i o q s r g
  split at h
  case h_2=>simp at h
  rename_i o' hf;simp at h;obtain⟨rfl,rfl⟩:=h;obtain⟨c,g1,g2⟩:=hc (b,o) (by simp);simp only at g1 g2;rw[hf]at g2;obtain⟨n,e,l⟩:=Yt a g1 g2;have i:b<H.length:=(hA.1 g1).1;obtain⟨f,q1,m⟩:=Hc bs g e.rel (by
   intro p j;obtain⟨k,k1,k2⟩:=hc p (by simp[j])
   by_cases d:b=p.1
   ·rw[<-d]at k1⊢;rw[g1]at k1;cases k1;refine⟨o',by rw[hB i],?_⟩;rw[<-k2,g2,IW g2]
   ·exact⟨k,by rw[hK d];exact k1,k2⟩)
  refine⟨f,by simpa only[ba]using e.trans q1,?_⟩;intro x hx;rcases hG.1 hx with rfl|hx
  ·exact q1.bR _ l
  ·exact m x hx
theorem IX{H0:Heap}:∀(bs:List Nat){aj aJ:List (Nat×Obj)},kC H0 bs=some (aj,aJ)->(∀p∈aj,H0[p.1]?=some p.2)/\(∀p∈aJ,p.1<H0.length/\p.2≠.hole)/\aj.map (·.1)=bs
 |[],aj,aJ,h=>by
  simp[kC]at h;obtain⟨rfl,rfl⟩:=h;simp
 |b::bs,aj,aJ,h=>by
  simp only[kC]at h
  split at h
  case h_2=>simp at h
  rename_i o f g d e
  split at h
  case h_2=>simp at h
  rename_i o' hf;simp at h;obtain⟨rfl,rfl⟩:=h;obtain⟨i1,i2,i3⟩:=IX bs e;refine⟨?_,?_,by simp[i3]⟩
  ·intro p a;rcases hG.1 a with rfl|a
   ·exact d
   ·exact i1 p a
  ·intro p a;rcases hG.1 a with rfl|a
   ·refine⟨(hA.1 d).1,fun c=>?_⟩;simp only at c;have:=IW hf;rw[c]at this;simp[lF]at this
   ·exact i2 p a
theorem Wd{w:dq}{aa aE ah:Nat->Prop}{β:Bd}{H0 H:Heap}{a:AV}{pv:PV}{bs:List Nat}{v:dl}(d:lN H0 a=some (pv,bs))(aj:∀b∈bs,H[b]?=H0[b]?)(n:bP P w aa β H ah)(e:aw P w aa β H a v)
 (hi:∀k,aa k->aE k)(r:∀b∈bs,aE (β.ak b)):aA P w aE pv v:=by
 cases a with
 |p t=>
  simp[lN]at d;obtain⟨rfl,rfl⟩:=d;simp only[aw]at e;exact aA.mono hi (fun _ _=>rfl) _ _ e
 |sl b ar ai off len=>
  simp only[lN]at d
  split at d
  case h_2=>simp at d
  rename_i k S M g l
  split at d
  case isFalse=>simp at d
  rename_i F;obtain⟨rfl,rfl,R⟩:=F
  split at d
  ·simp at d
  ·rename_i y
   split at d
   case h_2=>simp at d
   rename_i z I;simp at d;obtain⟨rfl,rfl⟩:=d;have x:=lg I;have f:H[b]?=some (.arr k ar ai g):=by rw[aj b (by simp)];exact l
   have j:=r b (by simp);simp only[aw,bK,bO]at e;obtain⟨v1,v2,v3⟩:=e.2 k g f;rcases n.cE b _ f with hold|⟨cs,T,A,rest,i,h,q,D,N,E,O,Q⟩
   ·exact(y hold).elim
   rw[v3 y];have J:Row P w aE β H ai g A:=bJ.mono hi (fun _ _=>rfl) (ch.refl _ _) _ _ _ (n.refs b _ f) h;obtain⟨a,m,c,e1,e2,e3,e4,e5⟩:=jq J off len v1;rw[x,Al,lh]at e2;have u:((z.drop off).take len).length=len:=by
    have:g.length=z.length:=by rw[x];simp
    simp;omega
   simp only[aA];refine⟨β.ak b,off*ai,β.cap b-off,ai,m,e2,fun _=>j,?_,?_,?_,none,.inl rfl,?_⟩
   ·rw[<-e3];exact kW i (post:=c.flatten++rest) (by rw[q,e1];simp)
   ·intro hf;simp at hf;rw[u,E hf.1];omega
   ·rw[u];omega
   ·rw[u]
 |ptr b path=>
  simp only[lN]at d
  split at d
  case h_2=>simp at d
  rename_i fz t l
  split at d
  case h_2=>simp at d
  rename_i s hs;simp at d;obtain⟨rfl,rfl⟩:=d;have f:H[b]?=some (.box fz (.p t)):=by rw[aj b (by simp)];exact l
  have j:=r b (by simp);simp only[aw,bK,bO]at e;obtain⟨_,L,K,o,rfl,G,e⟩:=e;obtain⟨rfl,rfl⟩:=e (.inl ⟨fz,_,f⟩);obtain⟨cs,T,i,h,q,D⟩:=n.cE b _ f;have C:aS P w aE t cs.toList:=by simp only[bm]at h;exact aS.mono hi (fun _ _=>rfl) _ _ h
  obtain⟨pre,xs,post,e1,e2,e3⟩:=xK C hs G;simp only[aA];refine⟨β.ak b,K,xs,e3,j,?_,rfl⟩;rw[<-e2];exact kW i e1
 |map b=>
  simp only[lN]at d
  split at d
  case h_2=>simp at d
  rename_i fz g l;simp at d;obtain⟨rfl,rfl⟩:=d;have f:H[b]?=some (.map fz g):=by rw[aj b (by simp)];exact l
  have j:=r b (by simp);simp only[aw,bK,bO]at e;have e:=e.2.1 ⟨_,f,trivial⟩;obtain⟨B,clock,i,h,q⟩:=n.cE b _ f;simp only[aA];exact⟨β.ak b,B,clock,j,i,cz.mono hi (fun _ _=>rfl) _ _ h,e⟩
 |b6=>simp[lN]at d
 |func=>simp[lN]at d
 |st=>simp[lN]at d
 |aD=>simp[lN]at d
theorem IA{w:dq}{aa aE ah:Nat->Prop}{β:Bd}{H0 H:Heap}:∀{l:List AV}{vs:List PV}{bs:List Nat}{d:List dl},nF H0 l=some (vs,bs)->(∀b∈bs,H[b]?=H0[b]?)->bP P w aa β H ah->bw P w aa β H l d->
 (∀k,aa k->aE k)->(∀b∈bs,aE (β.ak b))->bn P w aE vs d
 |[],vs,bs,d,h,_,_,c,_,_=>by
  simp[nF]at h;obtain⟨rfl,rfl⟩:=h;simp only[bw]at c;simpa[bn]using c
 |a::l,vs,bs,d,h,aj,f,c,hi,e=>by
  simp only[nF]at h
  split at h
  case h_2=>simp at h
  rename_i v m o n g i;simp at h;obtain⟨rfl,rfl⟩:=h;simp only[bw]at c;obtain⟨y,j,rfl,k1,k2⟩:=c;simp only[bn];exact⟨y,j,rfl,Wd g (fun b hx=>aj b (by simp[hx])) f k1 hi (fun b hx=>e b (by simp[hx])),IA i (fun b hx=>aj b (by simp[hx])) f k2 hi (fun b hx=>e b (by simp[hx]))⟩
def Act(P:dz)(n:Nat)(o:Oper)(s:St)(e:aU):Prop:=
 ∀(fr:eo)(k:List Item)(cs:List eo)(a:Array Oper)(i:Nat)(r:List Nat)(b:List Deferred)(ah aa:Nat->Prop)(β:Bd)(s':St)(t:Array dl)(w:dq),
  a[i]?=some o->hh o (yielded a t)=true->iI n o=true->cN P n ah aa β s' t w->(∀x∈o.op.operands,ev s'.env x=ev s.env x)->
  (∀p∈e.aj,s'.heap[p.1]?=some p.2)->(∀j,j<e.aR.length->s'.heap[s.heap.length+j]?=some .hole)->
  ∃aE aH c w',Steps P (lone (bA fr t b (.inRegion a (i::r)::k)) cs w) (lone (bA fr c b (.inRegion a r::k)) cs w')/\
   cN P n ah aE aH ⟨put o.dst e.v s'.env,ba s'.heap (e.aJ++newAt s.heap.length e.aR)⟩ c w'/\∀N,dI N ah aa w β s'.heap ah aE w' aH (ba s'.heap (e.aJ++newAt s.heap.length e.aR))
theorem Sx{o:Oper}{K:aU->Prop}{s:St}(h:iW P ag o s K)(c:Call):o.op≠.defer c:=by
 intro hc;unfold iW at h;rw[hc]at h;simp[fp,hc]at h
theorem Mj{e e':Env}{l:List dg}(h:∀x∈l,ev e' x=ev e x):l.map (ev e')=l.map (ev e):=h0 h
theorem JQ{o:Oper}{f:dg}{H:Array dg}{ak:Array dk}{g:ed}{fi ca:List AV}{K:aU->Prop}{s:St}
 (W:o.op=.call {callee:=.value f,args:=H,argTypes:=ak})
 (hf:(ev s.env f=.func g fi ca)\/(∃a b,ev s.env f=.p (.func g a b)/\fi=a.map .p/\ca=b.map .p))
 (h:gI P g (fi++H.toList.map (ev s.env)++ca) s.heap K):
 ∃e,K e/\(∀p∈e.aj,s.heap[p.1]?=some p.2)/\(∀p∈e.aJ,p.1<s.heap.length/\p.2≠.hole)/\Act P n o s e:=by
 have Q:∀c,o.op≠.defer c:=fun c hc=>by rw[W]at hc;cases hc
 have ac:f∈o.op.operands/\∀x∈H.toList,x∈o.op.operands:=by
  rw[W];simp[g8,gc];exact fun x hx=>.inr hx
 have M:∀{ah aa:Nat->Prop}{β:Bd}{s':St}{t:Array dl}{w:dq},cN P n ah aa β s' t w->(∀x∈o.op.operands,ev s'.env x=ev s.env x)->
  ∃m:List dl,bw P w aa β s'.heap (fi++H.toList.map (ev s.env)++ca) m/\aQ (aG s'.heap) (fi++H.toList.map (ev s.env)++ca)/\(dp (fq t) o).run P w=(callFunc g m.toArray).run P w:=by
  intro ah aa β s' t w d A;have I:=ny d f;rw[A f ac.1]at I;obtain⟨G,F,au,ar,ap,aC,ay⟩:∃G F:List dl,fq t f=.func (.func g) G.toArray F.toArray/\bw P w aa β s'.heap fi G/\bw P w aa β s'.heap ca F/\aQ (aG s'.heap) fi/\aQ (aG s'.heap) ca:=by
   rcases hf with hf|⟨a,b,hf,rfl,rfl⟩
   ·rw[hf]at I;simp only[aw,aB]at I;obtain⟨⟨G,F,y,z,D⟩,S,an⟩:=I;exact⟨G,F,D,y,z,S,an⟩
   ·rw[hf]at I;simp only[aw,aA]at I;obtain⟨⟨G,F,y,z,D⟩,_⟩:=I;exact⟨G,F,D,jf.2 y,jf.2 z,iM _ _,iM _ _⟩
  obtain⟨Y,Z⟩:=um d H.toList;rw[Mj (fun x hx=>A x (ac.2 x hx))]at Y Z;refine⟨G++H.toList.map (fq t)++F,n6 (n6 ar Y) ap,jo (jo aC Z) ay,?_⟩;simp only[dp,W,resolve,au,Deferred.ofValue,hn,ho,hl,invoke];congr 2;simp
 have pure:∀(fr:eo)(k:List Item)(cs:List eo)(l:Array Oper)(i:Nat)(r:List Nat)(u:List Deferred)(ah aa E:Nat->Prop)(β:Bd)(s':St)(t:Array dl)(w:dq)(H1:Heap)(m:List dl)(vs:List PV)(v:PV),
  l[i]?=some o->hh o (yielded l t)=true->iI n o=true->cN P n ah aa β s' t w->(dp (fq t) o).run P w=(callFunc g m.toArray).run P w->
  bV P ah aa w β s'.heap E w β H1->bn P w E vs m->az P g vs v->
  ∃aE aH ai w',Steps P (lone (bA fr t u (.inRegion l (i::r)::k)) cs w) (lone (bA fr ai u (.inRegion l r::k)) cs w')/\
   cN P n ah aE aH ⟨put o.dst (.p v) s'.env,H1⟩ ai w'/\∀N,dI N ah aa w β s'.heap ah aE w' aH H1:=by
  intro fr k cs l i r u ah aa E β s' t w H1 m vs v q C B d O j af L;rcases L with⟨aq,L⟩|L
  ·rw[aq]at O;obtain⟨e,w',al,⟨R,aE,U,g1,g2,g3,g4,g5,am,g6⟩,aK,av,V⟩:=L w E _ j.rel.bR j.rel.gV af (bA fr t u (.inRegion l (i::r)::k)::cs);subst U;have ae:=j.trans (j.rel.later g1 g2 g3 g4 g5 am);refine⟨aE,β,_,w',?_,d.put B ae (by simpa[aw]using g6) (by simp[aB]),fun _=>ae.eU⟩;rw[<-mQ q];exact(Steps.one (ub q C Q O)).trans (Steps.trans aK (.one (ei V)))
  ·obtain⟨R,y,z⟩:=L w E _ af;rw[y]at O;exact⟨E,β,_,w,.one (rC q C Q O (.inl rfl)),d.put B j (by simpa[aw]using z) (by simp[aB]),fun _=>j.eU⟩
 rcases h with⟨vs,v,y,z,D⟩|⟨vs,bs,aj,aJ,v,y,z,D,S⟩|⟨e,X,ad,T⟩|⟨aj,v,ao,ax,T⟩
 ·refine⟨_,D,by simp,by simp,?_⟩;intro fr k cs l i r u ah aa β s' t w q C B d A _ _;obtain⟨m,c1,c2,c3⟩:=M d A;rw[y]at c1;simp only[newAt,hF,ba];exact pure fr k cs l i r u ah aa aa β s' t w s'.heap m vs v q C B d c3 (bV.refl d.heap) (jf.1 c1) z
 ·obtain⟨i1,i2,i3⟩:=IX bs z;refine⟨_,S,i1,i2,?_⟩;intro fr k cs l i r u ah aa β s' t w q C B d A J _;obtain⟨m,c1,c2,c3⟩:=M d A;obtain⟨E,ag,aD⟩:=Hc bs z d.heap (fun p j=>⟨p.2,J p j,rfl⟩);simp only[newAt,hF];refine pure fr k cs l i r u ah aa E β s' t w _ m vs v q C B d c3 ag (IA y ?_ d.heap c1 ag.bR aD) D;intro b ab;rw[<-i3]at ab;obtain⟨p,j,rfl⟩:=i4.1 ab;rw[J p j,i1 p j]
 ·refine⟨_,T,ad.1,ad.2,?_⟩;intro fr k cs l i r u ah aa β s' t w q C B d A J aR;obtain⟨m,c1,c2,c3⟩:=M d A;rw[X.1]at c3;obtain⟨x,w',al,⟨R,aH,aE,U,g1,g2,g3⟩,aK,av,V⟩:=X.2 s'.heap w aa ah β _ d.heap c1 c2 J aR (bA fr t u (.inRegion l (i::r)::k)::cs);subst U;refine⟨aE,aH,_,w',?_,d.put B g1 g2 g3,fun _=>g1.eU⟩;rw[<-mQ q];exact(Steps.one (ub q C Q c3)).trans (Steps.trans aK (.one (ei V)))
 ·refine⟨_,T,ax,by simp,?_⟩;intro fr k cs l i r u ah aa β s' t w q C B d A J aR;obtain⟨m,c1,c2,c3⟩:=M d A;obtain⟨R,y,D⟩:=ao s'.heap w aa ah β _ d.heap c1 c2 J;rw[y]at c3;have j:=bV.refl d.heap;simp only[newAt,hF,ba];exact⟨aa,β,_,w,.one (rC q C Q c3 (.inl rfl)),d.put B j (by simpa[aw]using D) (by simp[aB]),fun _=>j.eU⟩
theorem Ui{o:Oper}{f:dg}{a:Array dg}{y:Array dk}{b:Nat}{e:aU}{s:St}
 (j:o.op=.call {callee:=.value f,args:=a,argTypes:=y})(hf:ev s.env f=.map b)(hY:sB P b (a.toList.map (ev s.env)) s.heap.length e):Act P n o s e:=by
 have G:∀c,o.op≠.defer c:=fun c hc=>by rw[j]at hc;cases hc
 have u:f∈o.op.operands/\∀x∈a.toList,x∈o.op.operands:=by
  rw[j];simp[g8,gc];exact fun x hx=>.inr hx
 intro fr k cs I i r z ah aa β s' t w v H C d m E aR;have h:=(ny d f).1;rw[m f u.1,hf]at h;simp only[aw,bK,bO]at h;obtain⟨l,p⟩:=um d a.toList;rw[Mj (fun x hx=>m x (u.2 x hx))]at l p;obtain⟨F,g,tmps,assign,body,A,B⟩:=hY s'.heap w aa ah β _ d.heap l p E aR;have D:=h.2.2 F;have q:(dp (fq t) o).run P w=(Instr.yield (β.ak b) (a.toList.map (fq t)).toArray).run P w:=by
  simp only[dp,j,resolve,D,Deferred.ofValue,hn,ho,hl,invoke];congr 2;exact cb (by simp)
 rw[A]at q;obtain⟨J,w',aH,aE,g1,g2,g3,g4⟩:=B (bA fr t z (.inRegion I (i::r)::k)) cs;refine⟨aE,aH,_,w',?_,d.put C g2 g3 g4,fun _=>g2.eU⟩;rw[<-mQ v];exact(Steps.one (HF v H G q)).trans g1
theorem Ve(m:kU P ag){o:Oper}{K:aU->Prop}{s:St}(h:iW P ag o s K):
 ∃e,K e/\(∀p∈e.aj,s.heap[p.1]?=some p.2)/\(∀p∈e.aJ,p.1<s.heap.length/\p.2≠.hole)/\Act P n o s e:=by
 have E:=Sx h;have q:fp P ag o (ev s.env) s.heap K->∃e,K e/\(∀p∈e.aj,s.heap[p.1]?=some p.2)/\(∀p∈e.aJ,p.1<s.heap.length/\p.2≠.hole)/\Act P n o s e:=by
  intro h;obtain⟨e,a,hs,aj,aJ⟩:=m o _ _ _ (fun v=>rfl) h;refine⟨e,a,aj,aJ,?_⟩;intro fr k cs L i r J ah aa β s' t w F G C d B D aR;obtain⟨nx,I,w',aH,aE,u,y,j,z,A⟩:=hs s'.heap w aa ah β (fq t) d.heap (fun x hx=>by rw[<-B x hx];exact ny d x) D aR;exact⟨aE,aH,_,w',.one (rC F G E u y),d.put C j z A,fun _=>j.eU⟩
 unfold iW at h
 split at h
 ·rename_i f args H c
  split at h
  ·rename_i g fi ca hf;exact JQ c (.inr ⟨fi,ca,hf,rfl,rfl⟩) h
  ·rename_i g fi ca hf;exact JQ c (.inl hf) h
  ·rename_i b hf;obtain⟨e,hY,l,a⟩:=h;exact⟨e,a,l.1,l.2,Ui c hf hY⟩
  ·exact h.elim
 ·exact q h
end
section
variable{P:dz}{ag:ed->Bool}{n:Nat}
def looks(a:Array Oper)(o:Oper):List Tmp:=
 (o.op.operands.toList.filterMap fun x=>match x with
  | .tmp t=>some t
  |_=>none)++(match o.guard with
  |some (j,_)=>(match(a[j]?).bind (·.dst)with
   |some d=>[d]
   |none=>[])
  |none=>[])
def pG(c:Array Oper)(a b:Oper):Bool:=
 (match a.dst with
  |some d=>(looks c b).contains d||b.dst==some d
  |none=>false)||
 (match b.dst with
  |some d=>(looks c a).contains d
  |none=>false)
def fit(_:Nat)(a:Array Oper):Bool:=
 (i6 a.size).all fun j=>match a[j]? with
  |some o=>o.after.toList.all (fun e=>!hj .any e||decide (e.on<j))&&
   (i6 j).all (fun i=>match a[i]? with
    |some u=>!pG a u o||reach a a.size i j
    |none=>true)
  |none=>true
structure CI(P:dz)(n:Nat)(ops:Array Oper)(o:Oper)(s:St)(e:aU):Prop where
 aj:∀p∈e.aj,s.heap[p.1]?=some p.2
 aJ:∀p∈e.aJ,p.1<s.heap.length
 act:(∀(t:Array dl)(s':St)(ah aa:Nat->Prop)(β:Bd)(w:dq),cN P n ah aa β s' t w->(∀x∈looks ops o,aN s'.env x=aN s.env x)->hh o (yielded ops t)=true)/\Act P n o s e\/
  (∀(t:Array dl)(s':St)(ah aa:Nat->Prop)(β:Bd)(w:dq),cN P n ah aa β s' t w->(∀x∈looks ops o,aN s'.env x=aN s.env x)->hh o (yielded ops t)=false)/\e={v:=.p (.aD [])}
inductive Tr(P:dz)(n:Nat)(ops:Array Oper):List Oper->Nat->St->List (St×aU)->St->Prop
 |nil (i:Nat) (s:St):Tr P n ops [] i s [] s
 |cons {o:Oper} {r:List Oper} {i:Nat} {s s':St} {e:aU} {es:List (St×aU)}:CI P n ops o s e->Tr P n ops r (i+1) (e.app o.dst s) es s'->Tr P n ops (o::r) i s ((s,e)::es) s'
def ow(i:Nat):List (St×aU)->List Touch->List Touch
 |[],acc=>acc
 |(s,e)::r,acc=>ow (i+1) r (gD i s.heap.length e acc)
theorem Ak{a:Array Oper}{o:Oper}{j:Nat}{f:Bool}(c:o.guard=some (j,f)){e e':Env}(h:∀x∈looks a o,aN e' x=aN e x):guardOf a j e'=guardOf a j e:=by
 unfold guardOf;cases b:(a[j]?).bind (·.dst)with
 |none=>rfl
 |some d=>
  simp only;exact h d (by simp[looks,c,b])
theorem Ji(B:kU P ag){a:Array Oper}(q:∀o∈a.toList,iI n o=true):∀(l:List Oper)(i:Nat)(d:List Touch)(s:St){K:St->Prop},(∀o∈l,o∈a.toList)->fP P ag a l i d K s->
 ∃c s',Tr P n a l i s c s'/\K s'/\jL a (ow i c d)=true
 |[],i,d,s,K,_,h=>⟨[],s,.nil i s,h.2,h.1⟩
 |o::l,i,d,s,K,F,h=>by
  have C:=fun d s(h:fP P ag a l (i+1) d K s)=>Ji B q l (i+1) d s (fun o G=>F o (by simp[G])) h
  have skip:fP P ag a l (i+1) d K ⟨put o.dst (.p (.aD [])) s.env,s.heap⟩->(∀(t:Array dl)(s':St)(ah aa:Nat->Prop)(β:Bd)(w:dq),cN P n ah aa β s' t w->(∀x∈looks a o,aN s'.env x=aN s.env x)->hh o (yielded a t)=false)->
   ∃c s',Tr P n a (o::l) i s c s'/\K s'/\jL a (ow i c d)=true:=by
   intro hk A;obtain⟨c,s',r,u,y⟩:=C _ _ hk;refine⟨(s,{v:=.p (.aD [])})::c,s',.cons ⟨by simp,by simp,.inr ⟨A,rfl⟩⟩ ?_,u,by simpa[ow,gD]using y⟩;simpa[aU.app,ba]using r
  have go:iW P ag o s (fun e=>fP P ag a l (i+1) (gD i s.heap.length e d) K (e.app o.dst s))->(∀(t:Array dl)(s':St)(ah aa:Nat->Prop)(β:Bd)(w:dq),cN P n ah aa β s' t w->(∀x∈looks a o,aN s'.env x=aN s.env x)->hh o (yielded a t)=true)->
   ∃c s',Tr P n a (o::l) i s c s'/\K s'/\jL a (ow i c d)=true:=by
   intro hk A;obtain⟨e,D,aj,aJ,E⟩:=Ve (n:=n) B hk;obtain⟨c,s',r,u,y⟩:=C _ _ D;exact⟨(s,e)::c,s',.cons ⟨aj,fun p H=>(aJ p H).1,.inl ⟨A,E⟩⟩ r,u,by simpa[ow]using y⟩
  simp only[fP]at h
  split at h
  ·rename_i f;exact go h (fun _ _ _ _ _ _ _ _=>by simp[hh,f])
  ·rename_i j I f
   split at h
   ·rename_i b m
    split at h
    ·rename_i z;refine go h (fun t s' ah aa β w k g=>?_);obtain⟨g1,g2⟩:=xd k q j;rw[Ak f g]at g1;simp[hh,f,g1 _ m,z]
    ·rename_i z;refine skip h (fun t s' ah aa β w k g=>?_);obtain⟨g1,g2⟩:=xd k q j;rw[Ak f g]at g1;simp[hh,f,g1 _ m,z]
   ·rename_i m;refine skip h (fun t s' ah aa β w k g=>?_);obtain⟨g1,g2⟩:=xd k q j;rw[Ak f g]at g2;simp[hh,f,g2 m]
   ·exact h.elim
def u7(a:Array Oper)(D:Nat->Prop):Prop:=∀j o,a[j]?=some o->D j->∀e∈o.after,hj .any e=true->D e.on
theorem Ax{c:Array Oper}{D:Nat->Prop}(hc:u7 c D):∀(f i j:Nat),reach c f i j=true->(∀o,c[j]?=some o->∀e∈o.after,hj .any e=true->D e.on)->D i
 |0,_,_,h,_=>by simp[reach]at h
 |f+1,i,j,h,d=>by
  simp only[reach]at h
  split at h
  case h_2=>simp at h
  rename_i o g;simp only[c6,hQ,da,beq_iff_eq,decide_eq_true_eq]at h;rcases h with⟨e,b,a,rfl⟩|⟨e,b,⟨a,_⟩,k⟩
  ·exact d o g e (by simpa using b) a
  ·have m:=d o g e (by simpa using b) a;exact Ax hc f i e.on k (fun o' p e' n l=>hc _ o' p m e' n l)
end
section
variable{P:dz}{ag:ed->Bool}{n:Nat}
theorem rJ(a:Nat)(l:List Obj):(newAt a l).map (·.1)=nu a l:=by
 induction l generalizing a with
 |nil=>rfl
 |cons o l b=>simp[newAt,nu,b]
theorem GI{a b:Nat}{l:List Obj}:b∈nu a l↔a<=b/\b<a+l.length:=by
 induction l generalizing a with
 |nil=>simp[nu]
 |cons o l c=>simp only[nu,hG,c,List.length_cons];omega
theorem xn{l:List (Nat×Obj)}{b:Nat}(h:b∉l.map (·.1)):∀H:Heap,(ba H l)[b]?=H[b]?:=by
 induction l with
 |nil=>intro H;rfl
 |cons p l a=>
  obtain⟨c,o⟩:=p;intro H;simp only[hE,hG,not_or]at h;simp only[ba];rw[a h.2,hK (Ne.symm h.1)]
theorem TR{l:List (Nat×Obj)}{b:Nat}(h:b∈l.map (·.1)):∀H H':Heap,H.length=H'.length->(ba H l)[b]?=(ba H' l)[b]?:=by
 induction l with
 |nil=>simp at h
 |cons p l f=>
  obtain⟨c,o⟩:=p;intro H H' d;simp only[ba]
  by_cases a:b∈l.map (·.1)
  ·exact f a _ _ (by simp[d])
  ·rw[xn a,xn a];simp only[hE,hG]at h;have:b=c:=h.resolve_right a;subst this
   by_cases e:b<H.length
   ·rw[hB e,hB (by omega)]
   ·rw[hX (by simp;omega),hX (by simp;omega)]
def cZ(es:List (St×aU))(s':St)(k:Nat):St:=match es[k]? with
 |some (s,_)=>s
 |none=>s'
def ft(es:List (St×aU))(k:Nat):aU:=match es[k]? with
 |some (_,e)=>e
 |none=>{v:=.p .undef}
theorem Tr.at{a:Array Oper}:∀{l:List Oper}{i:Nat}{s s':St}{es:List (St×aU)},Tr P n a l i s es s'->es.length=l.length/\cZ es s' 0=s/\
 ∀k o,l[k]?=some o->CI P n a o (cZ es s' k) (ft es k)/\cZ es s' (k+1)=(ft es k).app o.dst (cZ es s' k)
 |_,_,_,_,_,.nil i s=>⟨rfl,rfl,fun k o h=>by simp at h⟩
 |_,_,_,_,_,.cons (o:=o) (r:=r) (i:=i) (s:=s) (s':=s') (e:=e) (es:=es) hi d=>by
  obtain⟨h1,b,c⟩:=d.at;refine⟨by simp[h1],rfl,fun k o' hk=>?_⟩;cases k with
  |zero=>
   simp at hk;subst hk;refine⟨by simpa[cZ,ft]using hi,?_⟩;have:cZ ((s,e)::es) s' (0+1)=cZ es s' 0:=by simp[cZ]
   rw[this,b];simp[cZ,ft]
  |succ k=>
   have e1:∀m,cZ ((s,e)::es) s' (m+1)=cZ es s' m:=fun m=>by simp[cZ]
   have e2:ft ((s,e)::es) (k+1)=ft es k:=by simp[ft]
   rw[e1,e1,e2];exact c k o' (by simpa using hk)
theorem SH(u:Touch)(i:Nat):iQ u ⟨i,[],[]⟩=false:=by
 simp[iQ]
theorem Sm(i b:Nat)(e:aU)(a:List Touch):(gD i b e a=a/\gR i b e=⟨i,[],[]⟩)\/gD i b e a=gR i b e::a:=by
 unfold gD
 split
 ·rename_i c d f;exact .inl ⟨rfl,by simp[gR,c,d,f,nu]⟩
 ·exact .inr rfl
theorem HE{c:Array Oper}:∀(g:List (St×aU))(i:Nat)(d:List Touch),jL c (ow i g d)=true->jL c d=true/\
 (∀u∈d,∀b s e,g[b]?=some (s,e)->iQ u (gR (i+b) s.heap.length e)=true->reach c c.size u.i (i+b)=true)/\
 (∀a b s e f e2,a<b->g[a]?=some (s,e)->g[b]?=some (f,e2)->iQ (gR (i+a) s.heap.length e) (gR (i+b) f.heap.length e2)=true->reach c c.size (i+a) (i+b)=true)
 |[],i,d,h=>⟨h,by simp,by simp⟩
 |(s,e)::g,i,d,h=>by
  simp only[ow]at h;obtain⟨j,m,r⟩:=HE g (i+1) _ h
  have key:jL c d=true/\(∀u∈d,iQ u (gR i s.heap.length e)=true->reach c c.size u.i i=true)/\(∀u∈d,∀b s e,g[b]?=some (s,e)->iQ u (gR (i+1+b) s.heap.length e)=true->reach c c.size u.i (i+1+b)=true)/\
   (∀b f e2,g[b]?=some (f,e2)->iQ (gR i s.heap.length e) (gR (i+1+b) f.heap.length e2)=true->reach c c.size i (i+1+b)=true):=by
   rcases Sm i s.heap.length e d with⟨o,q⟩|o
   ·rw[o]at j m;refine⟨j,fun u _ hc=>?_,m,fun b f e2 _ hc=>?_⟩
    ·rw[q,SH]at hc;cases hc
    ·rw[q]at hc;simp[iQ]at hc
   ·rw[o]at j m;simp only[jL,da,ip]at j;refine⟨j.2,fun u l hc=>?_,fun u l=>m u (by simp[l]),m _ (by simp)⟩;have:=j.1 u l;rw[hc]at this;exact(by simpa using this:reach c c.size u.i (gR i s.heap.length e).i=true)
  obtain⟨k1,k2,k3,k4⟩:=key;refine⟨k1,?_,?_⟩
  ·intro u l b p e1 k hc;cases b with
   |zero=>simp at k;obtain⟨rfl,rfl⟩:=k;exact k2 u l hc
   |succ b=>
    have:=k3 u l b p e1 (by simpa using k);rw[show i+(b+1)=i+1+b by omega]at hc⊢;exact this hc
  ·intro a b p e1 f e2 t n k hc;cases b with
   |zero=>omega
   |succ b=>
    rw[show i+(b+1)=i+1+b by omega]at hc⊢;cases a with
    |zero=>
     simp at n;obtain⟨rfl,rfl⟩:=n;exact k4 b f e2 (by simpa using k) hc
    |succ a=>
     rw[show i+(a+1)=i+1+a by omega]at hc⊢;exact r a b p e1 f e2 (by omega) (by simpa using n) (by simpa using k) hc
end
section
variable{P:dz}{ag:ed->Bool}{n:Nat}
def hx(N:Nat)(s:St):Heap:=s.heap++hD (N-s.heap.length) .hole
def tA(a:Nat)(e:aU):List Nat:=(e.aJ++newAt a e.aR).map (·.1)
theorem YX{N:Nat}{s:St}{e:aU}{o:Oper}(aJ:∀p∈e.aJ,p.1<s.heap.length)(d:(e.app o.dst s).heap.length<=N):hx N (e.app o.dst s)=ba (hx N s) (e.aJ++newAt s.heap.length e.aR):=by
 have b:(e.app o.dst s).heap=ba s.heap e.aJ++e.aR:=rfl;have f:(e.app o.dst s).heap.length=s.heap.length+e.aR.length:=by rw[b];simp[nW]
 unfold hx;rw[b];have c:N-s.heap.length=e.aR.length+(N-(s.heap.length+e.aR.length)):=by omega
 rw[c,<-List.replicate_append_replicate,<-hO,wQ _ _ _ (by
  intro p a;rcases ix.1 a with a|a
  ·have:=aJ p a;simp;omega
  ·have:p.1∈(newAt s.heap.length e.aR).map (·.1):=List.mem_map_of_mem a
   rw[rJ,GI]at this;simp;omega)]
 rw[Ah,wQ _ _ _ aJ];have:=Aw (ba s.heap e.aJ) e.aR;rw[nW]at this;rw[this];congr 2;simp[nW]
section sched
variable{ops:Array Oper}{es:List (St×aU)}{s0 s':St}
structure iJ(P:dz)(n:Nat)(ops:Array Oper)(es:List (St×aU))(s':St):Prop where
 len:es.length=ops.size
 at_:∀k o,ops[k]?=some o->CI P n ops o (cZ es s' k) (ft es k)/\cZ es s' (k+1)=(ft es k).app o.dst (cZ es s' k)
 dst:∀o∈ops.toList,iI n o=true
 lower:∀j o,ops[j]?=some o->∀e∈o.after,hj .any e=true->e.on<j
 tmps:∀i j u o,i<j->ops[i]?=some u->ops[j]?=some o->pG ops u o=true->reach ops ops.size i j=true
 heap:∀i j,i<j->j<ops.size->iQ (gR i (cZ es s' i).heap.length (ft es i)) (gR j (cZ es s' j).heap.length (ft es j))=true->reach ops ops.size i j=true
def wr(a:List (St×aU))(s':St)(i:Nat):List Nat:=tA (cZ a s' i).heap.length (ft a i)
structure At(ops:Array Oper)(es:List (St×aU))(s':St)(D:Nat->Prop)(s:St):Prop where
 tmp:∀x,∃k,k<=ops.size/\aN s.env x=aN (cZ es s' k).env x/\∀i o,ops[i]?=some o->o.dst=some x->(D i↔i<k)
 len:s.heap.length=s'.heap.length
 heap:∀b,∃k,k<=ops.size/\s.heap[b]?=(hx s'.heap.length (cZ es s' k))[b]?/\∀i,i<ops.size->b∈wr es s' i->(D i↔i<k)
variable(h:iJ P n ops es s')
include h
theorem iJ.mono:∀{k m:Nat},k<=m->m<=ops.size->(cZ es s' k).heap.length<=(cZ es s' m).heap.length:=by
 intro k m e f
 induction m with
 |zero=>
  obtain rfl:k=0:=by omega
  exact i7 _
 |succ m c=>
  by_cases hk:k=m+1
  ·subst hk;exact i7 _
  ·have d:=c (by omega) (by omega);have b:ops[m]?=some ops[m]:=ck (by omega);obtain⟨_,a⟩:=h.at_ m _ b;rw[a];simp only[aU.app,hC,nW];omega
theorem iJ.last:cZ es s' ops.size=s':=by
 have:es[ops.size]?=none:=hX (by rw[h.len];exact i7 _);simp[cZ,this]
theorem iJ.vG{k:Nat}(hk:k<=ops.size):(cZ es s' k).heap.length<=s'.heap.length:=by
 have:=h.mono hk (i7 _)
 rwa [h.last]at this
theorem iJ.gG{k:Nat}(hk:k<ops.size):hx s'.heap.length (cZ es s' (k+1))=ba (hx s'.heap.length (cZ es s' k)) ((ft es k).aJ++newAt (cZ es s' k).heap.length (ft es k).aR):=by
 have c:ops[k]?=some ops[k]:=ck hk;obtain⟨h1,b⟩:=h.at_ k _ c;have a:=h.vG (k:=k+1) hk;rw[b]at a⊢;exact YX h1.aJ a
theorem YW{k:Nat}(hk:k<=ops.size):(hx s'.heap.length (cZ es s' k)).length=s'.heap.length:=by
 have:=h.vG hk;simp[hx];omega
theorem iJ.Jj{x:Nat}:∀{k m:Nat},k<=m->m<=ops.size->(∀i o,k<=i->i<m->ops[i]?=some o->o.dst≠some x)->aN (cZ es s' m).env x=aN (cZ es s' k).env x:=by
 intro k m j
 induction m with
 |zero=>
  intro _ _;obtain rfl:k=0:=by omega
  rfl
 |succ m g=>
  intro l d
  by_cases hk:k=m+1
  ·subst hk;rfl
  ·have e:=g (by omega) (by omega) (fun i o a b=>d i o a (by omega));have c:ops[m]?=some ops[m]:=ck (by omega);obtain⟨_,f⟩:=h.at_ m _ c;rw[f];simp only[aU.app,ui];rw[if_neg (d m _ (by omega) (by omega) c)];exact e
theorem iJ.IP{b:Nat}:∀{k m:Nat},k<=m->m<=ops.size->(∀i,k<=i->i<m->b∉wr es s' i)->(hx s'.heap.length (cZ es s' m))[b]?=(hx s'.heap.length (cZ es s' k))[b]?:=by
 intro k m f
 induction m with
 |zero=>
  intro _ _;obtain rfl:k=0:=by omega
  rfl
 |succ m e=>
  intro g c
  by_cases hk:k=m+1
  ·subst hk;rfl
  ·have d:=e (by omega) (by omega) (fun i a b=>c i a (by omega));rw[h.gG (by omega),xn (c m (by omega) (by omega))];exact d
theorem iJ.Kt{x:Nat}{k m:Nat}(hk:k<=ops.size)(g:m<=ops.size)(f:∀i o,ops[i]?=some o->o.dst=some x->(i<k↔i<m)):aN (cZ es s' m).env x=aN (cZ es s' k).env x:=by
 rcases j6 k m with d|d
 ·exact h.Jj d g fun i o a b e c=>by have:=f i o e c;omega
 ·exact(h.Jj d hk fun i o a b e c=>by have:=f i o e c;omega).symm
theorem iJ.Ke{b:Nat}{k m:Nat}(hk:k<=ops.size)(g:m<=ops.size)(f:∀i,i<ops.size->b∈wr es s' i->(i<k↔i<m)):(hx s'.heap.length (cZ es s' m))[b]?=(hx s'.heap.length (cZ es s' k))[b]?:=by
 rcases j6 k m with e|e
 ·exact h.IP e g fun i a c d=>by have:=f i (by omega) d;omega
 ·exact(h.IP e hk fun i a c d=>by have:=f i (by omega) d;omega).symm
variable{D:Nat->Prop}(hc:u7 ops D)
include hc
theorem iJ.order{i:Nat}{o:Oper}(k:ops[i]?=some o)(h:¬D i)(l:∀e∈o.after,hj .any e=true->D e.on):
 (∀j,j<i->reach ops ops.size j i=true->D j)/\(∀j,j<ops.size->i<j->reach ops ops.size i j=true->¬D j):=by
 constructor
 ·intro j g b;exact Ax hc _ _ _ b (fun o' a=>by rw[k]at a;cases a;exact l)
 ·intro j m g b d;exact h (Ax hc _ _ _ b (fun o' a e f c=>hc j o' a d e f c))
theorem iJ.reads{i:Nat}{o:Oper}(l:ops[i]?=some o)(q:¬D i)(y:∀e∈o.after,hj .any e=true->D e.on){s:St}(t:At ops es s' D s):
 (∀x∈looks ops o,aN s.env x=aN (cZ es s' i).env x)/\(∀b,b∈(ft es i).aj.map (·.1)\/b∈wr es s' i->s.heap[b]?=(hx s'.heap.length (cZ es s' i))[b]?):=by
 obtain⟨v,w⟩:=h.order hc l q y;have hi:i<ops.size:=(b5.1 l).1;constructor
 ·intro x hx;obtain⟨k,k1,k2,k3⟩:=t.tmp x;rw[k2];refine h.Kt (by omega) k1 fun j u m p=>?_;have g:j<ops.size:=(b5.1 m).1;rw[<-k3 j u m p];constructor
  ·intro a;refine v j a (h.tmps j i u o a m l ?_);simp[pG,p,hx]
  ·intro f;rcases i9 j i with a|rfl|a
   ·exact a
   ·exact(q f).elim
   ·exact(w j g a (h.tmps i j o u a l m (by simp[pG,p,hx])) f).elim
 ·intro b c;obtain⟨k,k1,k2,k3⟩:=t.heap b;rw[k2];refine h.Ke (by omega) k1 fun j g n=>?_;rw[<-k3 j g n];have r:b∈(gR j (cZ es s' j).heap.length (ft es j)).wr:=by
   unfold wr tA at n;rw[hM,rJ]at n;exact n
  have d:b∈(gR i (cZ es s' i).heap.length (ft es i)).rd\/b∈(gR i (cZ es s' i).heap.length (ft es i)).wr:=by
   rcases c with c|c
   ·exact .inl c
   ·unfold wr tA at c;rw[hM,rJ]at c;exact .inr c
  constructor
  ·intro a;refine v j a (h.heap j i a hi ?_);simp only[iQ,c6,hQ,hP];exact .inl ⟨b,r,d⟩
  ·intro f;rcases i9 j i with a|rfl|a
   ·exact a
   ·exact(q f).elim
   ·refine(w j g a (h.heap i j a g ?_) f).elim;simp only[iQ,c6,hQ,hP];rcases d with d|d
    ·exact .inr ⟨b,d,r⟩
    ·exact .inl ⟨b,d,.inr r⟩
theorem iJ.next{i:Nat}{o:Oper}(l:ops[i]?=some o)(z:¬D i)(A:∀e∈o.after,hj .any e=true->D e.on){s:St}(p:At ops es s' D s):
 At ops es s' (fun j=>D j\/j=i) ⟨put o.dst (ft es i).v s.env,ba s.heap ((ft es i).aJ++newAt (cZ es s' i).heap.length (ft es i).aR)⟩:=by
 obtain⟨w,y⟩:=h.order hc l z A;have hi:i<ops.size:=(b5.1 l).1;obtain⟨B,gG⟩:=h.at_ i o l;refine⟨fun x=>?_,by simp only[nW];exact p.len,fun b=>?_⟩
 ·by_cases hx:o.dst=some x
  ·refine⟨i+1,hi,?_,fun j u d n=>?_⟩
   ·rw[gG];simp[aU.app,ui,hx]
   ·have g:j<ops.size:=(b5.1 d).1;constructor
    ·rintro(c|rfl)
     ·rcases i9 j i with a|rfl|a
      ·omega
      ·omega
      ·exact(y j g a (h.tmps i j o u a l d (by simp[pG,n,hx])) c).elim
     ·omega
    ·intro a
     by_cases q:j=i
     ·exact .inr q
     ·exact .inl (w j (by omega) (h.tmps j i u o (by omega) d l (by simp[pG,n,hx])))
  ·obtain⟨k,k1,k2,k3⟩:=p.tmp x;refine⟨k,k1,?_,fun j u d n=>?_⟩
   ·simp only[ui];rw[if_neg hx];exact k2
   ·rw[<-k3 j u d n];constructor
    ·rintro(c|rfl)
     ·exact c
     ·rw[l]at d;cases d;exact(hx n).elim
    ·exact .inl
 ·by_cases f:b∈wr es s' i
  ·refine⟨i+1,hi,?_,fun j g m=>?_⟩
   ·rw[h.gG hi];exact TR f _ _ (by rw[YW h (by omega)];exact p.len)
   ·have t:b∈(gR j (cZ es s' j).heap.length (ft es j)).wr:=by
     unfold wr tA at m;rw[hM,rJ]at m;exact m
    have r:b∈(gR i (cZ es s' i).heap.length (ft es i)).wr:=by
     unfold wr tA at f;rw[hM,rJ]at f;exact f
    constructor
    ·rintro(c|rfl)
     ·rcases i9 j i with a|rfl|a
      ·omega
      ·omega
      ·refine(y j g a (h.heap i j a g ?_) c).elim;simp only[iQ,c6,hQ,hP];exact .inl ⟨b,r,.inr t⟩
     ·omega
    ·intro a
     by_cases q:j=i
     ·exact .inr q
     ·refine .inl (w j (by omega) (h.heap j i (by omega) hi ?_));simp only[iQ,c6,hQ,hP];exact .inl ⟨b,t,.inr r⟩
  ·obtain⟨k,k1,k2,k3⟩:=p.heap b;refine⟨k,k1,?_,fun j g m=>?_⟩
   ·simp only;rw[xn f];exact k2
   ·rw[<-k3 j g m];constructor
    ·rintro(c|rfl)
     ·exact c
     ·exact(f m).elim
    ·exact .inl
end sched
end
end Go.al
