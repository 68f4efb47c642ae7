import Derived.Test.YtenbmieafgdjaaaGreatDoorThB
import Derived.Laws.StructEq
import Derived.Laws.Concat
import Derived.ChangeKeysEq
import Derived.MapKept
import Derived.Laws.RangeString
import Derived.Lib.UnsafeStr
import Derived.Laws.BytesArg
import Derived.Orders
/- Parts of a proof. -/
set_option linter.unusedSimpArgs false
set_option linter.unusedVariables false
set_option linter.unusedSectionVars false
open Array renaming getElem?_eq_some_iff->b5, ext'->cb, getElem?_toList->cc, length_toList->ce, getElem?_eq_getElem->ck, toList_push->cv, getElem?_push->cx, getD->cy
open Bool renaming or_eq_true->cA, false_eq_true->cB, and_eq_true->cC
open Go renaming run_underlying->cN, Operand->c6, TypeId->c9, Value->da, execOp->db, World->dg, Program->dk, MapEntry->dl, setRow_other->dp, setRow_heap->dq, FuncId->dz, Field->ea, step_leave_returned->eb, run_storeCells_at->ec, TypeDesc->ed, IntKind->ee, Frame->ei
open Go.Builtin renaming firstCells->ej, clear_->em, unsafeString_->en, zeroCells->eo, copy_->eq, min2->ew, max2->e6, unsafeSliceData_->e7, min_->e8, max_->e9, lenOf->fb, cap_->fd
open Go.ByteArray renaming toList_eq->fl
open Go.Call renaming operands->fm
open Go.Instr renaming findNow->fv, findAsking->fN, checkKey->gb, findKey->gc, mapUpdate->ge, lookup->gg, sameNow->gi, next->gj
open Go.MapKept renaming run_getObj_map->gl, bytes_beq->gm
open Go.Op renaming operands->gt, equalIn->gx, equal->gy, bytesLess->gA, eqFields->g0, eqItems->g7, stringOp->g8
open Go.Region renaming wanted->g9, binds->ha
open Go.Result renaming andThen_ok->hb, andThen->hd
open Go.Sem renaming run_bind->he, run_pure->hg, run->hh
open Go.Utf8 renaming decode->hj
open Go.Value renaming oneCell'->hl, int->hm
open Go.World renaming freeze->hn, cell?->ho
open List renaming getElem?_eq_some_iff->hp, getElem?_set_self->hr, length_append->ht, replicate->hv, map_cons->hw, append_nil->hz, mem_cons->hA, mem_cons_of_mem->hB, getElem?_set_ne->hC, mem_of_mem_take->hD, map_append->hE, size_toArray->hF, append_assoc->hG, contains_iff_mem->hH, any_eq_true->hK, mem_of_mem_drop->hL, map_toArray->hM, length_eq_zero_iff->hN, take_of_length_le->hO, map_nil->hP, map_map->hQ, getElem?_eq_none->hR, replicate_succ->hS, map_congr_left->hT, length_pos_iff->hU, flatten_append->hV, mem_singleton->hW, getElem?_map->hX, length->hZ, nil_append->h0, drop_zero->h2, getElem?_append_left->h3, getElem?_eq_getElem->h4, map->h5, take_succ_cons->h6, all_eq_true->h7, mem_append->h8, length_map->h9, sum_cons->ih, mem_map->ii, map_id->ik, range->ip
open Nat renaming le_refl->ix, lt_irrefl->iz, lt_trichotomy->iL, add_zero->i0, le_add_right->i4, zero_add->i5, add_mul->i6, zero_mul->i7, succ_mul->i8, ne_of_lt->i9, le_total->jp
open Option renaming isSome_iff_exists->js
open PUnit renaming unit->j1
open UInt8 renaming toNat_ofNat'->j2, toNat_inj->j3, ofNat->j4
namespace Go.au
set_option linter.unusedSectionVars false
variable[Gl]
section
variable{P:dk}{w:dg}{aa ah:Nat->Prop}{β:Bd}{H:Heap}
variable{o:Oper}{ρ:c6->AV}{base:Nat}
theorem yr{c:Call}{s x:c6}(D:o.op= .call c)(hc:c.callee= .builtin .append)(y:c.args.toList=[s,x]){T X e:c9}(I:c.argTypes=#[T,X]){i:TypeInfo}{j:da}{sz:Nat}(u:qM P T sz e i)(v:iF P X=true)
 (L:i.zero=some j)(M:j.cells.size=sz)(F:bS P w aa β H ah){g:c6->da}{p:Option Addr}{b f:Nat}{olds a:List AV}{ocss:List (List da)}(hs:g s=.slice p b f)(m:olds.length=b)(l:Row P w aa β H sz olds ocss)(E:aS (aI H) olds)
 (C:(ej sz b (.slice p b f)).run P w.drew=.ok ocss.flatten.toArray w.drew)
 (hx:gO H (ρ x)=some a)(K:aB P w aa β H (ρ x) (g x))(J:aE (aI H) (ρ x))(G:fg P sz a)(A:f<b+a.length)(B:b+a.length<=cZ):
 ∃cap cells d N,(db g o).run P w=.ok (.value (.slice (some ⟨w.heap.size,0,none⟩) (b+a.length) cap)) {w.drew with heap:=w.heap.push (.cells cells e)}/\
  Row P w aa β H sz (olds++a) d/\aS (aI H) (olds++a)/\cells.toList=d.flatten++N/\cells.size=cap*sz/\(olds++a).length<=cap:=by
 obtain⟨d,h,q,r,t⟩:=wD hx F K J G;have k:=t w.drew rfl a.length (ix _);have O:d.length=a.length:=(fT h).1;rw[hO (by omega)]at k;obtain⟨cap,z,n⟩:=Wx u v L o.type (sLen:=b) (sCap:=f) (p:=p) (g x) r C k A B;rw[<-I,<-hs]at n;refine⟨cap,_,ocss++d,(eo j.cells (cap-(b+a.length))).toList,yD D hc y n,lr.2 ⟨_,_,rfl,l,h⟩,jL E q,by simp,?_,by simpa[m]using z⟩;have e1:=(fT l).2;have e2:=(fT h).2;simp only[Array.size_append,hF,JC,M,e1,e2,m,<-i6];congr 1;omega
theorem uz{T:c9}:gk P T≠.frozen/\gk P T≠.exact:=by
 unfold gk;split<;>simp
theorem EH{T e:c9}(h:eB P T=e)(hk:gk P T=.bytes):e=Gl.u8:=by
 unfold gk at hk
 split at hk
 ·rename_i a;rw[<-h];exact a
 ·cases hk
theorem CG{_o':Obj}{k:AK}{a:List AV}{b:List (List da)}{r:List da}{cells:Array da}{e:c9}{cap sz:Nat}(j:bS P w aa β H ah)(c:H[base]?=some .hole)
 (g:k≠.frozen)(i:¬df k a)(m:Row P w aa β H sz a b)(d:aS (aI H) a)(hc:cells.toList=b.flatten++r)(o:cells.size=cap*sz)(h:a.length<=cap)(f:k=.exact->cap=a.length)(p:k=.bytes->e=Gl.u8):
 bY P ah aa w β H aa {w.drew with heap:=w.heap.push (.cells cells e)} (β.at base w.heap.size cap) (bd H ([]++newAt base [.arr k 0 sz a]))/\
 aB P {w.drew with heap:=w.heap.push (.cells cells e)} aa (β.at base w.heap.size cap) (bd H ([]++newAt base [.arr k 0 sz a])) (.sl base 0 sz 0 a.length) (.slice (some ⟨w.heap.size,0,none⟩) a.length cap)/\
 aE (aI (bd H ([]++newAt base [.arr k 0 sz a]))) (.sl base 0 sz 0 a.length):=by
 have l:bS P w.drew aa β H ah:=bS.v7 (w:=w) (w':=w.drew) rfl j;have n:Row P w.drew aa β H sz a b:=Row.mono (w:=w) (w':=w.drew) (fun _ x=>x) (fun _ _=>rfl) (cd.refl _ _) d m;obtain⟨q1,q⟩:=yP (T:=e) (k:=k) l c g i n d hc o h f p;rw[lU];exact⟨bY.drew (w1:=w.drew) rfl ⟨rfl,rfl⟩ q1,q,⟨_,hr (hp.1 c).1,ix _⟩⟩
theorem LP{b:Nat}{k k':AK}{aA ai:Nat}{i es':List AV}{al cap:Nat}(f:H[b]?=some (.arr k aA ai i)):cd β H (β.at b al cap) (H.set b (.arr k' (aA+1) ai es')):=by
 have j:b<H.length:=(hp.1 f).1;have c:∀x,x≠b->(H.set b (.arr k' (aA+1) ai es'))[x]?=H[x]?:=fun x hx=>hC (Ne.symm hx);have a:(H.set b (.arr k' (aA+1) ai es'))[b]?=some (.arr k' (aA+1) ai es'):=hr j;refine⟨?_,?_,?_,?_,?_⟩
 ·rintro x _ ⟨fz,t,h⟩
  by_cases hx:x=b
  ·subst hx;rw[a]at h;cases h
  ·rw[c x hx]at h;exact⟨⟨fz,t,h⟩,by simp[Bd.at,hx]⟩
 ·rintro x _ ⟨fz,t,h⟩
  by_cases hx:x=b
  ·subst hx;rw[a]at h;cases h
  ·rw[c x hx]at h;exact⟨⟨fz,t,h⟩,by simp[Bd.at,hx]⟩
 ·rintro x _ ⟨n,h,e⟩
  by_cases hx:x=b
  ·subst hx;rw[a]at h;cases h;exact e.elim
  ·rw[c x hx]at h;exact⟨⟨n,h,e⟩,by simp[Bd.at,hx]⟩
 ·intro x v z m g hi h;unfold eX at h
  by_cases hx:x=b
  ·subst hx;rw[a]at h;cases h;obtain⟨o,d,l⟩:=hi;simp only at d;rw[f]at d;cases d;simp only[Obj.has]at l;omega
  ·rw[c x hx]at h;exact⟨m,g,h,ix _,Iff.rfl,fun _=>by simp[Bd.at,hx]⟩
 ·rintro x _ ⟨L,h⟩
  by_cases hx:x=b
  ·subst hx;rw[a]at h;cases h
  ·rw[c x hx]at h;exact⟨⟨L,h⟩,by simp[Bd.at,hx]⟩
theorem Bd.Xd(β:Bd)(b:Nat):β.at b (β.al b) (β.cap b)=β:=by
 cases β with
 |mk al cap=>
  simp only[Bd.at,Bd.mk.injEq];constructor
  ·funext x;split
   ·rename_i h;rw[h]
   ·rfl
  ·funext x;split
   ·rename_i h;rw[h]
   ·rfl
theorem B2{α:Type}(A M Z X:List α):(A++M++Z).take A.length++X++(A++M++Z).drop (A.length+M.length)=A++X++Z:=by
 rw[hG A M Z,List.take_left,<-hG,<-ht,List.drop_left]
theorem WS{c:Call}{s x:c6}(Y:o.op= .call c)(hc:c.callee= .builtin .append)(W:c.args.toList=[s,x])(bT:c.argTypes.size=2){H0:Heap}{K:aW->Prop}
 (h:nQ P (c.argTypes.getD 0 0) (c.argTypes.getD 1 0) H0 (ρ s) (ρ x) K):
 ∃e,K e/\bw P o ρ H0.length e/\(∀p∈e.ak,H0[p.1]?=some p.2)/\(∀p∈e.aK,p.1<H0.length/\p.2≠.hole):=by
 obtain⟨T,X,S⟩:∃T X,c.argTypes=#[T,X]:=by
  obtain⟨l,I⟩:∃l,l=c.argTypes.toList:=⟨_,rfl⟩
  have af:l.length=2:=by rw[I];simpa using bT
  match l,af with
  |[a,b],_=>exact⟨a,b,by apply cb;simp[<-I]⟩
 have B:s∈o.op.operands/\x∈o.op.operands:=by
  have bF:c.args=#[s,x]:=by apply cb;simpa using W
  rw[Y];simp[gt,fm,hc,bF]
 have e1:c.argTypes.getD 0 0=T:=by rw[S];rfl
 have e2:c.argTypes.getD 1 0=X:=by rw[S];rfl
 rw[e1,e2]at h;unfold nQ at h
 split at h
 case h_2=>exact h.elim
 rename_i sz g F hx;obtain⟨ag,a8,am,h⟩:=h;obtain⟨e,i,F⟩:=ke F;obtain⟨z,a8⟩:=js.1 a8;obtain⟨b3,b0,bf,z2,z3,z4⟩:=pf a8;rw[F.qB]at bf z4;rw[F.info]at bf;cases bf;have aU:b0.cells.size=sz:=by
  obtain⟨_,i2,k1,k2⟩:=yu (v:=.p z) (w:=default) (aa:=fun _=>False) (β:=⟨id,id⟩) (H:=[]) z4 (by simp only[br];exact z3 _ _);rw[F.info]at k1;cases k1;have:=F.size;simp at k2;omega
 have ba:∀{ak:List (Nat×Obj)},(∀p∈dE H0 (ρ x),p∈ak)->(∀p∈ak,H0[p.1]?=some p.2)->g=[]->(∀(H:Heap)(w:dg)(aa ah:Nat->Prop)(β:Bd)(v:da),bS P w aa β H ah->(∀p∈ak,H[p.1]?=some p.2)->aB P w aa β H (ρ s) v->∃p a b,v= .slice p a b/\a<=b)->
  bw P o ρ H0.length {v:=ρ s,ak}:=by
  intro ak bR au bV bP;subst bV;refine bw.same fun H w aa ah β ar f j ak=>?_;obtain⟨p,a,b,u,bE⟩:=bP H w aa ah β _ f ak (j s B.1).1;obtain⟨E,C,af,bB,bC⟩:=wD (qh hx (fun p u=>ak p (bR p u))) f (j x B.2).1 (j x B.2).2 am;have bj:=bC w rfl 0 (ix _);simp only[List.take_zero,List.flatten_nil]at bj;have R:=Vx F ag o.type (p:=p) (sLen:=a) (sCap:=b) _ bB bj bE;rw[<-S,<-u]at R;exact⟨_,yD Y hc W R,by rw[u];exact u▸(j s B.1).1,(j s B.1).2⟩
 have a9:∀l:List AV,l.isEmpty=true->l=[]:=fun l h=>by simpa using h
 split at h
 ·
  rename_i hs
  split at h
  ·rename_i G;refine⟨_,h,?_,nG,by simp⟩;exact ba (fun p u=>u) nG (a9 _ G) (fun H w aa ah β v _ _ A=>by rw[hs]at A;simp only[aB,aD]at A;exact⟨_,_,_,A,ix _⟩)
  ·rename_i G;obtain⟨bo,h⟩:=h;refine⟨_,h,?_,nG,by simp⟩;intro H w aa ah β ar f j ak aG;have aj:H[H0.length]?=some .hole:=by simpa using aG 0 (by simp)
   have Q:=(j s B.1).1;rw[hs]at Q;simp only[aB,aD]at Q;have bq:0<g.length:=hU.2 (by simpa using G);obtain⟨cap,cells,E,D,ac,an,ad,ao,ap,aq⟩:=yr Y hc W S F ag z2 aU f Q (olds:=[]) (ocss:=[]) rfl (im.2 rfl) (by simp[aS]) (by simp[ej])
    (qh hx ak) (j x B.2).1 (j x B.2).2 am (by omega) (by omega)
   obtain⟨q1,Z,ab⟩:=CG (base:=H0.length) (k:=gk P T) (e:=e) (_o':=.hole) f aj uz.1 (fun q=>G (by simpa using q.2)) an ad ao ap aq (fun h=>(uz.2 h).elim) (EH F.qB);simp only[h0,i5]at ac q1 Z ab;exact⟨_,_,_,_,aa,ac,.inl rfl,q1,Z,ab⟩
 ·
  rename_i full d hs;obtain⟨bG,h⟩:=h
  have Q:∀{H:Heap}{w:dg}{aa:Nat->Prop}{β:Bd}{v:da},aB P w aa β H (ρ s) v->∃p c N,v= .slice p d.length c/\d.length<=c/\(full=true->c=d.length)/\Row P w aa β H sz (d.map .p) N/\
   (∀w':dg,w'.heap=w.heap->(ej sz d.length v).run P w'=.ok N.flatten.toArray w'):=by
   intro H w aa β v A;rw[hs]at A;simp only[aB,aD]at A;obtain⟨al,off,cap,ai,E,v1,v2,v3,v4,v5,sp,bQ,rfl⟩:=A;rcases bQ with rfl|rfl
   case inr=>
    obtain rfl:d=[]:=hN.1 (by omega);exact⟨_,_,[],rfl,by simp,by simp,im.2 rfl,fun w' _=>BS⟩
   have aM:Row P w aa β H ai (d.map .p) E:=l9.2 v1;have bv:Row P w aa β H sz (d.map .p) E:=by
    by_cases bp:d.map AV.p=[]
    ·rw[bp]at aM⊢;rw[im]at aM⊢;exact aM
    ·rw[<-tN aM bG bp];exact aM
   refine⟨_,_,E,rfl,v5,v4,bv,fun w' a7=>vB (by have:=(fT bv).2;simpa using this) (v3.same (by rw[a7]))⟩
  split at h
  ·rename_i G;refine⟨_,h,?_,nG,by simp⟩;exact ba (fun p u=>u) nG (a9 _ G) (fun H w aa ah β v _ _ A=>by obtain⟨p,c,_,C,af,_⟩:=Q A;exact⟨p,_,c,C,af⟩)
  ·rename_i G;obtain⟨hf,bo,h⟩:=h;refine⟨_,h,?_,nG,by simp⟩;intro H w aa ah β ar f j ak aG;have aj:H[H0.length]?=some .hole:=by simpa using aG 0 (by simp)
   have bq:0<g.length:=hU.2 (by simpa using G);obtain⟨p,cp,N,s1,s2,bX,bZ,bA⟩:=Q (j s B.1).1;rw[s1]at bA;obtain⟨cap,cells,E,D,ac,an,ad,ao,ap,aq⟩:=yr Y hc W S F ag z2 aU f s1 (olds:=d.map .p) (by simp) bZ (iW _ _) (bA w.drew rfl)
    (qh hx ak) (j x B.2).1 (j x B.2).2 am (by have:=bX hf;omega) (by omega)
   obtain⟨q1,Z,ab⟩:=CG (base:=H0.length) (k:=gk P T) (e:=e) (_o':=.hole) f aj uz.1 (fun q=>G (by have:=q.2;simp at this;simp[this.2])) an ad ao ap aq (fun h=>(uz.2 h).elim) (EH F.qB);simp only[ht,h9]at Z ab;exact⟨_,_,_,_,aa,ac,.inl rfl,q1,Z,ab⟩
 ·
  rename_i b aA ai off len hs
  split at h
  case h_2=>exact h.elim
  rename_i k b4 b1 d a5;obtain⟨rfl,rfl,rfl,hlen,h⟩:=h;have au:∀p∈(b,Obj.arr k aA ai d)::dE H0 (ρ x),H0[p.1]?=some p.2:=by
   intro p u;rcases hA.1 u with rfl|u
   ·exact a5
   ·exact nG p u
  have Q:∀{H:Heap}{w:dg}{aa ah:Nat->Prop}{β:Bd}{v:da},bS P w aa β H ah->H[b]?=some (.arr k aA ai d)->aB P w aa β H (ρ s) v->
   (df k d/\v=.slice none 0 0/\len=0)\/(¬df k d/\v=.slice (some ⟨β.al b,off*ai,none⟩) len (β.cap b-off)/\
   ∃cs T E D,w.heap[β.al b]?=some (.cells cs T (0,0))/\Row P w aa β H ai d E/\cs.toList=E.flatten++D/\
   cs.size=β.cap b*ai/\d.length<=β.cap b/\(k=.exact->β.cap b=d.length)/\cG aa β ah (k== .frozen) b/\(k=.bytes->T=Gl.u8)):=by
   intro H w aa ah β v f t A;rw[hs]at A;simp only[aB,bO,bU]at A;obtain⟨_,v2,v3⟩:=A.2 k d t
   by_cases q:df k d
   ·exact .inl ⟨q,v2 q,by have:=q.2;subst this;simp at hlen;omega⟩
   ·rcases f.cF b _ t with hold|⟨cs,O,E,D,k1,k2,k3,k4,k5,k6,k7,k8⟩
    ·exact(q hold).elim
    ·exact .inr ⟨q,v3 q,cs,O,E,D,k1,k2,k3,k4,k5,k6,k7,k8.2⟩
  have holds:∀{H:Heap}{w:dg}{aa:Nat->Prop}{β:Bd}{cs:Array da}{O:c9}{E:List (List da)}{D:List da},w.heap[β.al b]?=some (.cells cs O (0,0))->Row P w aa β H ai d E->cs.toList=E.flatten++D->
   ∃N,Row P w aa β H ai ((d.drop off).take len) N/\∀(w':dg)(n c:Nat),w'.heap=w.heap->(ej ai len (.slice (some ⟨β.al b,off*ai,none⟩) n c)).run P w'=.ok N.flatten.toArray w':=by
   intro H w aa β cs O E D k1 k2 k3;obtain⟨a,m,z,g1,g2,g3,g4,g5⟩:=jM k2 off len hlen;refine⟨m,g2,fun w' n c a7=>vB (by have:=(fT g2).2;rw[this];congr 1;simp;omega) ?_⟩;have:=lY k1 (pre:=a.flatten) (xs:=m.flatten) (post:=z.flatten++D) (by rw[k3,g1];simp);rw[g3]at this;exact this.same (by rw[a7])
  split at h
  ·rename_i G;refine⟨_,h,?_,au,by simp⟩;refine ba (fun p u=>hB _ u) au (a9 _ G) (fun H w aa ah β v f ak A=>?_);rcases Q f (ak (b,_) (by simp)) A with⟨_,C,_⟩|⟨q,C,cs,O,E,D,af⟩
   ·exact⟨_,_,_,C,ix _⟩
   ·exact⟨_,_,_,C,by omega⟩
  ·rename_i G;have bq:0<g.length:=hU.2 (by simpa using G);obtain⟨bo,h⟩:=h
   split at h
   ·exact h.elim
   ·
    split at h
    ·rename_i aw;refine⟨_,h,?_,au,by simpa using(hp.1 a5).1⟩;intro H w aa ah β ar f j ak _;have t:H[b]?=some (.arr .exact aA ai d):=ak (b,_) (by simp);rcases Q f t (j s B.1).1 with⟨q,_⟩|⟨q,C,cs,O,E,D,k1,k2,k3,k4,k5,k6,k7,k8⟩
     ·cases q.1
     obtain⟨M,V,bb,bc,be⟩:=wD (qh hx (fun p u=>ak p (hB _ u))) f (j x B.2).1 (j x B.2).2 am;have aO:=be w rfl g.length (ix _);rw[hO (by have:=(fT V).1;omega)]at aO;have bm:=k6 rfl;obtain⟨a,m,ae,g1,g2,g3,g4,g5⟩:=jM k2 (off+len) g.length aw;have ax:=(fT V).2;have av:m.flatten.length=g.length*ai:=by have:=(fT g2).2;rw[this];congr 1;simp;omega
     have aP:cs.toList=a.flatten++m.flatten++(ae.flatten++D):=by rw[k3,g1];simp
     have bl:a.flatten.length=off*ai+len*ai:=by rw[g3,i6]
     have bx:cs.size=a.flatten.length+m.flatten.length+(ae.flatten++D).length:=by
      have:=congrArg hZ aP;simp only[ht,ce]at this;rw[this,ht]
     have R:=JB F ag o.type (sLen:=len) (sCap:=β.cap b-off) _ bc k1 aO (wM V) (by omega) (by rw[ax,bx,bl,av];exact i4 _ _);rw[<-S,<-C]at R;have aV:cs.toList.take (off*ai+len*ai)++M.flatten++cs.toList.drop (off*ai+len*ai+M.flatten.length)=a.flatten++M.flatten++(ae.flatten++D):=by
      rw[aP,<-bl,ax,<-av];exact B2 _ _ _ _
     rw[aV]at R;have aH:cd β H β (H.set b (.arr .exact aA ai (d.take (off+len)++g++d.drop (off+len+g.length)))):=pB t (.inr (.inl ⟨_,_,_,_,_,rfl,rfl,by simp;omega⟩));have aC:¬aa (β.al b)/\¬ah (β.al b):=by
      unfold cG at k7;rw[if_neg (by simp)]at k7;exact k7
     have a6:∀J,aa J->(w.setRow (β.al b) (a.flatten++M.flatten++(ae.flatten++D)).toArray).heap[J]?=w.heap[J]?:=fun J a2=>dp w _ J _ (fun a1=>aC.1 (a1▸a2));have hrefs:aS (aI H) (d.take (off+len)++g++d.drop (off+len+g.length)):=by
      have bs:=cL.1 (f.refs b _ t);refine jL (jL ?_ bb) ?_
      ·rw[cL];exact fun v A=>bs v (hD A)
      ·rw[cL];exact fun v A=>bs v (hL A)
     have aQ:=ma t (o:=.arr .exact aA ai (d.take (off+len)++g++d.drop (off+len+g.length))) (fun _ h=>h);have a3:(d.take (off+len)++g++d.drop (off+len+g.length)).length=d.length:=by simp;omega
     have aL:=qI f t q (o':=.arr .exact aA ai (d.take (off+len)++g++d.drop (off+len+g.length))) (fun U=>by cases U.1) (fun _ h=>h) k1 (new:=(a.flatten++M.flatten++(ae.flatten++D)).toArray) aC aH
      (.inr ⟨_,O,a++M++ae,D,dq w _ _ _ O _ k1,by
       refine Row.mono (fun _ x=>x) a6 aH hrefs (lr.2 ⟨_,_,rfl,lr.2 ⟨_,_,rfl,g4,V⟩,g5⟩),by simp,by
       rw[<-k4,bx];simp only[hF,ht,ax,av],by rw[a3];exact k5,fun _=>by rw[a3];exact bm,k7,(fun aR=>by cases aR),k8⟩) (aS.mono aQ _ hrefs)
     refine⟨_,_,_,β,aa,yD Y hc W R,.inl rfl,aL,?_,?_⟩
     ·simp only[aB,bO,bU,bd,newAt,hz];refine⟨by simp[hl],fun J bh I=>?_⟩;unfold eX at I;rw[hr (hp.1 t).1]at I;cases I;exact⟨by rw[a3];omega,(fun U=>by cases U.1),fun _=>trivial⟩
     ·simp only[aE];exact⟨_,hr (hp.1 t).1,ix _⟩
    ·rename_i aw;refine⟨_,h,?_,au,by simp⟩;intro H w aa ah β ar f j ak aG;have aj:H[H0.length]?=some .hole:=by simpa using aG 0 (by simp)
     have t:H[b]?=some (.arr .exact aA ai d):=ak (b,_) (by simp);rcases Q f t (j s B.1).1 with⟨q,_⟩|⟨q,C,cs,O,E,D,k1,k2,k3,k4,k5,k6,k7,k8⟩
     ·cases q.1
     have bm:=k6 rfl;obtain⟨N,aN,aX⟩:=holds k1 k2 k3;have bn:((d.drop off).take len).length=len:=by simp;omega
     obtain⟨cap,cells,bg,bz,ac,an,ad,ao,ap,aq⟩:=yr Y hc W S F ag z2 aU f C (olds:=(d.drop off).take len) bn aN
      (by rw[cL];exact fun v A=>cL.1 (f.refs b _ t) v (hL (hD A))) (aX w.drew _ _ rfl)
      (qh hx (fun p u=>ak p (hB _ u))) (j x B.2).1 (j x B.2).2 am (by omega) (by omega)
     obtain⟨q1,Z,ab⟩:=CG (base:=H0.length) (k:=gk P T) (e:=e) (_o':=.hole) f aj uz.1 (fun q=>G (by have:=q.2;simp at this;simp[this.2])) an ad ao ap aq (fun h=>(uz.2 h).elim) (EH F.qB);rw[ht,bn]at Z ab;exact⟨_,_,_,_,aa,ac,.inl rfl,q1,Z,ab⟩
   ·
    rename_i bI bJ;obtain⟨rfl,bK,h⟩:=h;have aK:k≠.frozen:=fun e=>bI e;have aR:k≠.exact:=fun e=>bJ e;have b2:(k==AK.frozen)=false:=by simpa using aK
    refine⟨_,h,?_,au,by simpa using(hp.1 a5).1⟩;intro H w aa ah β ar f j ak _;have t:H[b]?=some (.arr k aA ai d):=ak (b,_) (by simp);have ay:b<H.length:=(hp.1 t).1;have aT:(d.take len).length=len:=by simp;omega
    have bu:aS (aI H) (d.take len):=by rw[cL];exact fun v A=>cL.1 (f.refs b _ t) v (hD A)
    have a4:¬df k (d.take len++g):=fun U=>G (by have:=U.2;simp at this;simp[this.2]);have aQ:=ma t (o:=.arr k (aA+1) ai (d.take len++g)) (fun v h=>by simp only[Obj.has]at h⊢;omega)
    have bi:∀(p:Option Addr)(aZ:Nat)(N:List (List da)),ar s= .slice p len aZ->Row P w aa β H ai (d.take len) N->(ej ai len (.slice p len aZ)).run P w.drew= .ok N.flatten.toArray w.drew->aZ<len+g.length->
     ∃n a0 w' aJ aF,(db ar o).run P w=.ok n w'/\(n=.value a0\/n=.skip/\a0=undef)/\
      bY P ah aa w β H aF w' aJ (H.set b (.arr k (aA+1) ai (d.take len++g)))/\aB P w' aF aJ (H.set b (.arr k (aA+1) ai (d.take len++g))) (.sl b (aA+1) ai 0 (len+g.length)) a0/\
      aE (aI (H.set b (.arr k (aA+1) ai (d.take len++g)))) (.sl b (aA+1) ai 0 (len+g.length)):=by
     intro p aZ N C bM bL bH;obtain⟨cap,cells,bg,bz,ac,an,ad,ao,ap,aq⟩:=yr Y hc W S F ag z2 aU f C (olds:=d.take len) aT bM bu bL
      (qh hx (fun p u=>ak p (hB _ u))) (j x B.2).1 (j x B.2).2 am bH (by omega)
     have aH:=LP (β:=β) (k':=k) (es':=d.take len++g) (al:=w.heap.size) (cap:=cap) t;have aL:bY P ah aa w β H aa {w.drew with heap:=w.heap.push (.cells cells e)} (β.at b w.heap.size cap) (H.set b (.arr k (aA+1) ai (d.take len++g))):=by
      refine bY.set f ay (fun y bW=>by simp[Bd.at,bW]) (fun _ y=>y) (fun _ y=>.inl y) (fun k hk=>by have:=f.bR k hk;simp;omega) (by simp)
       (fun k _ hk=>by simp[cx,i9 hk]) (fun _=>.inl (by simp[Bd.at])) aH
       (.inr ⟨cells,e,bg,bz,by simp[Bd.at],Row.mono (fun _ y=>y) (fun k hk=>by have:=f.bR k hk;simp[cx,i9 this]) aH ad an,ao,by simp[Bd.at,ap],by simpa[Bd.at]using aq,(fun az=>(aR az).elim),by
        unfold cG;rw[if_neg (by simpa using aK)];simp only[Bd.at,if_true];exact⟨fun h=>iz _ (f.bR _ h),fun h=>iz _ (f.er _ h)⟩,(fun az=>(aK az).elim),fun aj=>F.qB▸bK aj⟩)
       (aS.mono aQ _ ad) (fun aN v C af=>by rw[t]at C;cases C;simp only[Obj.has]at af⊢;omega) (fun L bk=>by rw[t]at bk;cases bk)
     refine⟨_,_,_,_,aa,ac,.inl rfl,aL,?_,?_⟩
     ·simp only[aB,bO,bU];refine⟨by simp[hl],fun J bh I=>?_⟩;unfold eX at I;rw[hr ay]at I;cases I;exact⟨by rw[ht,aT];omega,fun U=>(a4 U).elim,fun _=>by simp[Bd.at]⟩
     ·simp only[aE];exact⟨_,hr ay,ix _⟩
    simp only[bd,newAt,hz];rcases Q f t (j s B.1).1 with⟨q,C,rfl⟩|⟨q,C,cs,O,E,D,k1,k2,k3,k4,k5,k6,k7,k8⟩
    ·exact bi none 0 [] C (by simp[im]) (by simp[ej]) (by omega)
    ·simp only[i7,Nat.sub_zero]at C
     by_cases aw:len+g.length<=β.cap b
     ·
      obtain⟨M,V,bb,bc,be⟩:=wD (qh hx (fun p u=>ak p (hB _ u))) f (j x B.2).1 (j x B.2).2 am;have aO:=be w rfl g.length (ix _);rw[hO (by have:=(fT V).1;omega)]at aO;obtain⟨a,m,ae,g1,g2,g3,g4,g5⟩:=jM k2 0 len hlen;have bD:a=[]:=by have:=(fT g4).1;simpa using this
      subst bD;have ax:=(fT V).2;have av:m.flatten.length=len*ai:=by have:=(fT g2).2;rw[this];congr 1
      have aP:cs.toList=m.flatten++(ae.flatten++D):=by rw[k3,g1];simp
      have bN:=Nat.mul_le_mul_right ai aw;rw[i6]at bN;have R:=JB F ag o.type (off:=0) (sLen:=len) (sCap:=β.cap b) _ bc k1 aO (wM V) aw (by rw[ax,k4];omega);rw[<-S,<-C]at R;obtain⟨aY,bt⟩:∃r,r=cs.toList.drop (len*ai+M.flatten.length):=⟨_,rfl⟩
      have aV:cs.toList.take (0+len*ai)++M.flatten++cs.toList.drop (0+len*ai+M.flatten.length)=(m++M).flatten++aY:=by
       rw[i5,<-bt];congr 1;rw[aP,<-av];simp
      rw[aV]at R;have aC:¬aa (β.al b)/\¬ah (β.al b):=by
       unfold cG at k7;rw[if_neg (by simpa using aK)]at k7;exact k7
      have aH:cd β H β (H.set b (.arr k (aA+1) ai (d.take len++g))):=by
       have:=LP (β:=β) (k':=k) (es':=d.take len++g) (al:=β.al b) (cap:=β.cap b) t
       rwa [Bd.Xd]at this
      have a6:∀J,aa J->(w.setRow (β.al b) ((m++M).flatten++aY).toArray).heap[J]?=w.heap[J]?:=fun J a2=>dp w _ J _ (fun a1=>aC.1 (a1▸a2));have hrefs:aS (aI H) (d.take len++g):=jL bu bb;have aL:=qI f t q (o':=.arr k (aA+1) ai (d.take len++g)) a4 (fun v h=>by simp only[Obj.has]at h⊢;omega) k1 (new:=((m++M).flatten++aY).toArray) aC aH
       (.inr ⟨_,O,m++M,aY,dq w _ _ _ O _ k1,by
        refine Row.mono (fun _ x=>x) a6 aH hrefs (lr.2 ⟨_,_,rfl,?_,V⟩);simpa using g2,by simp,by
        rw[<-k4];simp only[hF,ht,hV,ax,av,bt,List.length_drop,ce,k4];omega,by rw[ht,aT];exact aw,(fun az=>(aR az).elim),k7,(fun h=>(aK h).elim),k8⟩) (aS.mono aQ _ hrefs)
      refine⟨_,_,_,β,aa,yD Y hc W R,.inl rfl,aL,?_,?_⟩
      ·simp only[aB,bO,bU];refine⟨by simp[hl],fun J bh I=>?_⟩;unfold eX at I;rw[hr ay]at I;cases I;exact⟨by rw[ht,aT];omega,fun U=>(a4 U).elim,fun _=>by simp⟩
      ·simp only[aE];exact⟨_,hr ay,ix _⟩
     ·obtain⟨N,aN,aX⟩:=holds k1 k2 k3;simp only[h2,i7]at aN aX;exact bi _ _ N C aN (aX w.drew _ _ rfl) (by omega)
 ·exact h.elim
end
section
variable{P:dk}{w:dg}{aa ah:Nat->Prop}{β:Bd}{H:Heap}
variable{o:Oper}{ρ:c6->AV}{base:Nat}
def iY(bs:ByteArray):List Nat:=bs.data.toList.map (·.toNat)
theorem BW:∀{a b:List UInt8},a.map (·.toNat)=b.map (·.toNat)->a=b
 |[],[],_=>rfl
 |[],_::_,h=>by simp at h
 |_::_,[],h=>by simp at h
 |x::a,y::b,h=>by
  simp at h;rw[j3.1 h.1,BW h.2]
theorem bytes_beq(a b:ByteArray):(a.toList==b.toList)=(iY a==iY b):=by
 rw[fl,fl];unfold iY
 by_cases h:a.data.toList=b.data.toList
 ·simp[h]
 ·have d:¬(a.data.toList.map (·.toNat)=b.data.toList.map (·.toNat)):=fun c=>h (BW c)
  rw[beq_eq_false_iff_ne.2 h,beq_eq_false_iff_ne.2 d]
theorem I9:∀a b:List UInt8,gA a b=jj (a.map (·.toNat)) (b.map (·.toNat))
 |[],[]=>rfl
 |_::_,[]=>rfl
 |[],_::_=>rfl
 |x::a,y::b=>by
  simp only[gA,hw,jj,I9 a b];congr 1
  ·congr 1
   by_cases h:x=y
   ·simp[h]
   ·have:¬x.toNat=y.toNat:=fun c=>h (j3.1 c);rw[beq_eq_false_iff_ne.2 h,beq_eq_false_iff_ne.2 this]
theorem aIY{c:BinOp}{T j:c9}{x y:c6}{a b:List Nat}{K:PV->Prop}(g:o.op= .binOp c T x y j)(hx:ρ x= .p (.str a))(u:ρ y= .p (.str b))
 (h:pY c a b K)(ak:List (Nat×Obj)):∃v,K v/\bw P o ρ base {v:=.p v,ak}:=by
 have key:∀v,K v->(∀(w:dg)(aa:Nat->Prop)(s t:ByteArray),a=iY s->b=iY t->∃r,(g8 c s t).run P w=.ok r w/\aD P w aa v r)->∃v,K v/\bw P o ρ base {v:=.p v,ak}:=by
  intro v q n;refine⟨v,q,bw.same fun H w aa ah β C B i _=>?_⟩;have e:=(i x (by simp[g,gt])).1;have f:=(i y (by simp[g,gt])).1;rw[hx]at e;rw[u]at f;simp only[aB,N4]at e f;obtain⟨s,e1,e2⟩:=e;obtain⟨t,e3,e4⟩:=f;obtain⟨r,z,A⟩:=n w aa s t e2 e4;refine⟨r,?_,by simpa only[aB]using A,by simp[aE]⟩;simp only[db,g,e1,e3];refine eJ ?_;have l:(eqGuard c T x y (.string s) (.string t)).run P w=.ok () w:=by
   unfold eqGuard
   split<;>simp
  have k:(binOp c T (.string s) (.string t)).run P w=.ok r w:=by
   cases c<;>first|(simp[pY]at h;done)|exact z
  simp[l,k]
 have m:∀s t:ByteArray,a=iY s->b=iY t->gA s.toList t.toList=jj a b/\(s.toList==t.toList)=(a==b):=by
  intro s t hs d;rw[bytes_beq,<-hs,<-d,I9,fl,fl];exact⟨by rw[hs,d];rfl,rfl⟩
 cases c<;>simp only[pY]at h
 case add=>
  refine key _ h.2 fun w aa s t hs d=>⟨.string (s++t),run_string_add_sum w s t ?_,?_⟩
  ·have e:a.length=s.size:=by rw[hs];simp[iY]
   have f:b.length=t.size:=by rw[d];simp[iY]
   omega
  ·rw[N4];exact⟨_,rfl,by rw[hs,d];simp[iY,ByteArray.data_append]⟩
 case eql|neq|lss|leq|gtr|geq=>
  refine key _ h fun w aa s t hs d=>?_;obtain⟨e1,e2⟩:=m s t hs d;exact⟨_,by simp only[g8,e1,e2];rfl,by simp[aD]⟩
theorem Ur{T:c9}(h:rq P T=true):P.underlying T=some .bool:=by
 unfold rq at h
 split at h
 ·assumption
 ·simp at h
theorem IW{T:c9}{a b:da}{r:Bool}{w:dg}(h:(gy T a b).run P w= .ok r w)(d:(∃x,a= .bool x)\/(∃x,a= .agg x)\/(∃p n c,a= .slice p n c)\/(∃m,a= .map m)\/a= .nilFunc\/(∃f x y,a= .func f x y)\/(∃p,a= .pointer p)\/a= .nilIface):
 (binOp .eql T a b).run P w=.ok (.bool r) w/\(binOp .neq T a b).run P w=.ok (.bool !r) w:=by
 rcases d with⟨x,rfl⟩|⟨x,rfl⟩|⟨p,n,c,rfl⟩|⟨m,rfl⟩|rfl|⟨f,x,y,rfl⟩|⟨p,rfl⟩|rfl
 all_goals (constructor<;>(unfold binOp;simp[h]))
def jr.isAgg:jr->Bool
 | .agg _=>true
 |_=>false
theorem Xh{T:c9}{t:jr}(hk:kindOf P T=t)(a:t≠.bad)(w:dg):(isAgg T).run P w=.ok t.isAgg w:=by
 unfold kindOf at hk;cases hu:P.underlying T with
 |none=>rw[hu]at hk;simp at hk;exact(a hk.symm).elim
 |some d=>
  rw[hu]at hk;simp only[isAgg,he,cN hu,hb];cases d<;>simp only at hk<;>(split at hk<;>first|(subst hk;rfl)|exact(a hk.symm).elim)
theorem ru{F:c9}{v:PV}{pre c post:List da}{cs:Array da}(hk:kindOf P F=aL v)(b:aR P w aa v c)(e:cs.toList=pre++c++post):
 ∃x,(part F cs pre.length).run P w=.ok x w/\aD P w aa v x:=by
 obtain⟨j,i,f,g⟩:=yu (v:=.p v) (β:=⟨id,id⟩) (H:=[]) (w:=w) (aa:=aa) hk (by simpa only[br]using b);have d:=(nO b).2;have a:=Xh hk d w;cases hs:aL v with
 |bad=>exact(d hs).elim
 |leaf=>
  rw[hs]at a;obtain⟨x,rfl,hx⟩:=(tO hs c).1 b;refine⟨x,?_,hx⟩;have:cs[pre.length]?=some x:=by rw[<-cc,e];simp
  simp[part,a,this,jr.isAgg]
 |agg u=>
  rw[hs]at a;refine⟨.agg c.toArray,?_,(wO hs c).1 b⟩;have h:(sizeOf F).run P w=.ok c.length w:=by simp[sizeOf,typeInfo,f,g]
  have:cs.extract pre.length (pre.length+c.length)=c.toArray:=by
   apply cb;rw[Array.toList_extract,e];simp[List.extract_eq_take_drop]
  simp[part,a,h,this,jr.isAgg]
theorem wN{n:Nat}{b:List Nat}{v:PV}{vs:List PV}{a:List (List da)}(h:bg P w aa (n::b) (v::vs) a):∃c cs,a=c::cs/\aR P w aa v c/\c.length=n/\bg P w aa b vs cs:=by
 simpa only[bg]using h
theorem I7{eqF:c9->PV->PV->Option Bool}{d:Nat}(B:∀F a b r,eqF F a b=some r->kindOf P F=aL a->kindOf P F=aL b->∀x y,aD P w aa a x->aD P w aa b y->(gx d F x y).run P w= .ok r w){X Y:Array da}:
 ∀(fs:List ea)(l:List Nat)(j k:List PV)(r:Bool)(h m:List da)(o p:List (List da)),je P eqF (fs.map (·.type)) j k=some r->fs.all (fun f=>f.name != "_")=true->
 (∀(i:Nat)(f:ea),fs[i]?=some f->f.offset=h.length+(l.take i).sum)->bg P w aa l j o->bg P w aa l k p->h.length=m.length->
 X.toList=h++o.flatten->Y.toList=m++p.flatten->(g0 d X Y fs).run P w=.ok r w
 |[],l,j,k,r,h,m,o,p,e,_,_,_,_,_,_,_=>by
  cases j<;>cases k<;>simp[je]at e;subst e;simp[g0]
 |f::fs,l,j,k,r,h,m,o,p,e,q,v,hx,L,A,t,hY=>by
  cases j with
  |nil=>simp[je]at e
  |cons a j=>
   cases k with
   |nil=>simp[je]at e
   |cons b k=>
    cases l with
    |nil=>simp[bg]at hx
    |cons n l=>
     simp only[hw,je]at e
     split at e
     case isFalse=>simp at e
     rename_i hk
     split at e
     case h_2=>simp at e
     rename_i N O E G;simp at e;subst e;obtain⟨c,cs,rfl,hc,u,K⟩:=wN hx;obtain⟨c',s,rfl,H,I,M⟩:=wN L;simp only[List.all_cons,cC,bne_iff_ne]at q;have z:f.offset=h.length:=by simpa using v 0 f (by simp)
     obtain⟨x,C,R⟩:=ru hk.1 hc (pre:=h) (post:=cs.flatten) (cs:=X) (by rw[t];simp);obtain⟨y,D,S⟩:=ru hk.2 H (pre:=m) (post:=s.flatten) (cs:=Y) (by rw[hY];simp);have e1:=B _ _ _ _ E hk.1 hk.2 x y R S;rw[<-z]at C;rw[<-A,<-z]at D;have Q:=I7 B fs l j k O (h++c) (m++c') cs s G q.2 (by
      intro i g J;have:=v (i+1) g (by simpa using J);rw[this,h6,ih,ht,u];omega) K M (by simp[A,u,I]) (by rw[t];simp) (by rw[hY];simp)
     simp only[g0,q.1,ne_eq,not_false_eq_true,if_true,he,C,D,e1,hb];cases N with
     |false=>simp
     |true=>simpa using Q
theorem Hn{eqF:c9->PV->PV->Option Bool}{d:Nat}{e:c9}(u:∀a b r,eqF e a b=some r->∀x y,aD P w aa a x->aD P w aa b y->(gx d e x y).run P w= .ok r w){X Y:Array da}:
 ∀(n k:Nat)(g h:List PV)(r:Bool)(i j:List da)(l m:List (List da)),je P eqF (hv n e) g h=some r->
 bg P w aa (hv n (P.cellsOf e)) g l->bg P w aa (hv n (P.cellsOf e)) h m->i.length=k*P.cellsOf e->j.length=k*P.cellsOf e->
 X.toList=i++l.flatten->Y.toList=j++m.flatten->(g7 d e (P.cellsOf e) X Y (List.range' k n)).run P w=.ok r w
 |0,k,g,h,r,i,j,l,m,f,_,_,_,_,_,_=>by
  cases g<;>cases h<;>simp[je]at f;subst f;simp[g7]
 |n+1,k,g,h,r,i,j,l,m,f,hx,t,q,s,p,hY=>by
  cases g with
  |nil=>simp[hS,je]at f
  |cons a g=>
   cases h with
   |nil=>simp[hS,je]at f
   |cons b h=>
    rw[hS]at f hx t;simp only[je]at f
    split at f
    case isFalse=>simp at f
    rename_i hk
    split at f
    case h_2=>simp at f
    rename_i H I A B;simp at f;subst f;obtain⟨c,cs,rfl,hc,D,F⟩:=wN hx;obtain⟨c',o,rfl,C,E,G⟩:=wN t;obtain⟨x,v,K⟩:=ru hk.1 hc (pre:=i) (post:=cs.flatten) (cs:=X) (by rw[p];simp);obtain⟨y,z,L⟩:=ru hk.2 C (pre:=j) (post:=o.flatten) (cs:=Y) (by rw[hY];simp);have e1:=u _ _ _ A x y K L;rw[q]at v;rw[s]at z;have J:=Hn u n (k+1) g h I (i++c) (j++c') cs o B F G (by rw[ht,q,D,i8]) (by rw[ht,s,E,i8]) (by rw[p];simp) (by rw[hY];simp);rw[List.range'_succ];simp only[g7,he,v,z,e1,hb];cases H with
    |false=>simp
    |true=>simpa using J
theorem zj:∀(n:Nat)(T:c9)(v v':PV)(r:Bool),ir P n T v v'=some r->∀x y,aD P w aa v x->aD P w aa v' y->∀d,n<=d->(gx d T x y).run P w=.ok r w
 |0,_,_,_,_,h,_,_,_,_,_,_=>by simp[ir]at h
 |n+1,T,v,v',r,h,x,y,hx,g,d,L=>by
  obtain⟨d,rfl⟩:∃e,d=e+1:=⟨d-1,by omega⟩
  unfold ir at h
  split at h
  ·rename_i a b c;simp at h;subst h;simp only[aD]at hx g;subst hx;subst g;simp[gx,cN c]
  ·rename_i k0 k a M b c
   split at h
   case isFalse=>simp at h
   rename_i hk;subst hk;simp at h;subst h;simp only[aD]at hx g;subst hx;subst g;exact run_equalIn_int w d T k k0 a b c
  ·rename_i a b c;simp at h;subst h;simp only[aD]at hx g;obtain⟨s,rfl,hs⟩:=hx;obtain⟨t,rfl,H⟩:=g;rw[run_equalIn_string w d T s t c,bytes_beq,hs,H];rfl
  ·rename_i fs u A u' B c
   split at h
   case isFalse=>simp at h
   rename_i hc;obtain⟨hk,rfl,G,E⟩:=hc;simp only[aD]at hx g;obtain⟨l,j,k1,k2,rfl⟩:=hx;obtain⟨D,o,k3,k4,rfl⟩:=g;rw[k1]at k3;cases k3;obtain⟨K,D,s1,s2,q,z,N,I⟩:=vG (P:=P) (T:=T) (u:=u') (n:=fs.size) (by unfold fU;rw[hk,c]);rw[c]at s1;cases s1;rw[k1]at z;cases z;have C:P.fieldsOf T=fs:=by simp[Program.fieldsOf,c]
   rw[run_equalIn_struct w d T _ _ (by rw[C];exact c) G,C];refine I7 (eqF:=ir P n) (fun F a b r p _ _ x y hx g=>zj n F a b r p x y hx g d (by omega)) fs.toList l A B r [] [] j o h E ?_ k2 k4 rfl (by simp) (by simp);intro i f hf;have hi:i<fs.size:=by
    have:=(hp.1 hf).1;simpa using this
   obtain⟨J,g1,g2,_⟩:=I i hi;rw[cc,g1]at hf;cases hf;simpa using g2
  ·rename_i m e u A u' B c
   split at h
   case isFalse=>simp at h
   rename_i hc;obtain⟨hk,rfl,hi⟩:=hc;simp only[aD]at hx g;obtain⟨l,j,k1,k2,rfl⟩:=hx;obtain⟨D,o,k3,k4,rfl⟩:=g;rw[k1]at k3;cases k3;obtain⟨e',s1,s2,q,z⟩:=tQ (P:=P) (T:=T) (u:=u') (n:=m) (by unfold hJ;rw[hk,c]);rw[c]at s1;cases s1;rw[k1]at q;cases q;obtain⟨i,hi⟩:=js.1 hi;rw[run_equalIn_array w d _ _ c hi,List.range_eq_range'];exact Hn (eqF:=ir P n) (fun a b r p x y hx g=>zj n e a b r p x y hx g d (by omega)) m 0 A B r [] [] j o h k2 k4 (by simp) (by simp) (by simp) (by simp)
  ·simp at h
end
section
variable{P:dk}{w:dg}{aa ah:Nat->Prop}{β:Bd}{H:Heap}
variable{o:Oper}{ρ:c6->AV}{base:Nat}
theorem DZ{d:BinOp}{T C:c9}{x y:c6}{r:Bool}{K:PV->Prop}{l:List (Nat×Obj)}(k:o.op= .binOp d T x y C)
 (D:d=.eql/\K (.bool r)\/d=.neq/\K (.bool !r))
 (I:∀(H:Heap)(w:dg)(aa ah:Nat->Prop)(β:Bd)(a b:da),bS P w aa β H ah->(∀p∈l,H[p.1]?=some p.2)->aB P w aa β H (ρ x) a->aB P w aa β H (ρ y) b->(gy T a b).run P w=.ok r w/\
  ((∃x,a=.bool x)\/(∃x,a=.agg x)\/(∃p n c,a=.slice p n c)\/(∃m,a=.map m)\/a=.nilFunc\/(∃f x y,a=.func f x y)\/(∃p,a=.pointer p)\/(a=.nilIface/\mv y=true))/\(∀u v,a=.agg u->b=.agg v->P.eqGuardType P.depth T=false)):
 ∃v,K v/\bw P o ρ base {v:=.p v,ak:=l}:=by
 have key:∀v,K v->(∀(w:dg)(a b:da),(gy T a b).run P w= .ok r w->((∃x,a= .bool x)\/(∃x,a= .agg x)\/(∃p n c,a= .slice p n c)\/(∃m,a= .map m)\/a= .nilFunc\/(∃f x y,a= .func f x y)\/(∃p,a= .pointer p)\/a= .nilIface)->
  ∃q,v=.bool q/\(binOp d T a b).run P w=.ok (.bool q) w)->∃v,K v/\bw P o ρ base {v:=.p v,ak:=l}:=by
  intro v J hq;refine⟨v,J,bw.same fun H w aa ah β s G t ak=>?_⟩;obtain⟨L,z,A⟩:=I H w aa ah β _ _ G ak (t x (by simp[k,gt])).1 (t y (by simp[k,gt])).1;obtain⟨q,rfl,F⟩:=hq w _ _ L (by rcases z with h|h|h|h|h|h|h|h<;>simp[h]);refine⟨.bool q,?_,by simp[aB,aD],by simp[aE]⟩;simp only[db,k];refine eJ ?_;have E:(eqGuard d T x y (s x) (s y)).run P w=.ok () w:=by
   rcases z with⟨p,e⟩|⟨p,e⟩|⟨p,n,c,e⟩|⟨m,e⟩|e|⟨f,M,N,e⟩|⟨p,e⟩|⟨e,hc⟩
   all_goals rw[e]at A⊢
   case inr.inl=>
    cases hy:s y with
    |agg B=>
     exact run_eqGuard_agg w d T x y p B (A p B rfl hy)
    |_=>cases d<;>rfl
   case inr.inr.inr.inr.inr.inr.inr=>
    cases y<;>simp[mv]at hc;unfold eqGuard;cases d<;>simp<;>(split<;>simp_all)
   all_goals (cases d<;>rfl)
  simp[E,F]
 rcases D with⟨rfl,j⟩|⟨rfl,j⟩
 ·exact key _ j fun w a b g i=>⟨_,rfl,(IW g i).1⟩
 ·exact key _ j fun w a b g i=>⟨_,rfl,(IW g i).2⟩
theorem ze(T:c9)(a b:da):∃d,9<=d+1/\gy T a b=gx (d+1) T a b:=⟨9999,by omega,rfl⟩
theorem Kd{T:c9}{c:Bool}{b:AV}{k:u9}(h:dD P T c b=some k):
 (k=.ptr/\b=.p .dM/\∃e,P.underlying T=some (.pointer e))\/(k=.slice/\b=.p .aP/\∃e,P.underlying T=some (.slice e))\/
 (k=.map/\b=.p .fF/\∃e f,P.underlying T=some (.map e f))\/(k=.func/\b=.p .iv/\∃e f g,P.underlying T=some (.func e f g))\/(k=.iface/\b=.p .ga/\c=true/\∃m,P.underlying T=some (.interface m)):=by
 unfold dD at h
 split at h<;>first
  |(split at h
    ·rename_i a;simp at h;subst h;simp[a]
    ·simp at h)
  |simp at h
theorem aGT{T:c9}{c:Bool}{H0:Heap}{a b:AV}{r:Bool}{k:u9}(hk:dD P T c b=some k)(h:cX H0 k a=some r){l s:da}(ak:∀p∈dE H0 a,H[p.1]?=some p.2)(i:aB P w aa β H a l)(C:aB P w aa β H b s):
 (gy T l s).run P w=.ok r w/\((∃x,l=.bool x)\/(∃x,l=.agg x)\/(∃p n c,l=.slice p n c)\/(∃m,l=.map m)\/l=.nilFunc\/(∃f x y,l=.func f x y)\/(∃p,l=.pointer p)\/(l=.nilIface/\c=true))/\(∀u v,l=.agg u->s=.agg v->P.eqGuardType P.depth T=false):=by
 obtain⟨d,_,I⟩:=ze T l s;rw[I];rcases Kd hk with⟨rfl,rfl,e,j⟩|⟨rfl,rfl,e,j⟩|⟨rfl,rfl,e,f,j⟩|⟨rfl,rfl,e,f,g,j⟩|⟨rfl,rfl,G,m,j⟩
 all_goals simp only[aB,aD]at C
 all_goals subst C
 ·cases a<;>simp only[cX]at h
  case p v=>
   cases v<;>simp only at h<;>simp at h
   all_goals subst h
   all_goals simp only[aB,aD]at i
   ·subst i;simp[gx,cN j]
   ·obtain⟨_,_,_,_,_,_,rfl⟩:=i;simp[gx,cN j]
  case ptr B path=>
   simp only[aB,bO,bU]at i;obtain⟨_,_,_,_,rfl,_⟩:=i
   split at h
   ·simp at h;subst h;simp[gx,cN j]
   ·simp at h
  all_goals simp at h
 ·cases a<;>simp only[cX]at h
  case p v=>
   cases v
   case seq o=>
    cases o with
    |nil=>simp at h
    |cons e o=>
     simp at h;subst h;simp only[aB,aD]at i;rcases i with⟨J,_⟩|⟨_,_,_,_,_,_,_,_,_,_,_,rfl⟩
     ·cases J
     ·simp[gx,cN j]
   all_goals simp only at h
   all_goals simp at h
   all_goals subst h
   all_goals simp only[aB,aD]at i
   ·subst i;simp[gx,cN j]
   ·obtain⟨_,_,_,_,_,_,_,_,_,_,_,_,rfl⟩:=i;simp[gx,cN j]
  case sl B aA ai off len=>
   simp only[aB,bO,bU]at i;simp only[dE]at ak
   split at h
   case h_2=>simp at h
   rename_i A M L o t;rw[t]at ak;have z:=ak _ (hW.2 rfl)
   split at h
   case isFalse=>simp at h
   rename_i hc;obtain⟨rfl,rfl⟩:=hc;obtain⟨_,E,F⟩:=i.2 A o z
   by_cases q:df A o
   ·rw[E q];have:r=true:=by simp at h;rw[<-h];simp[q.1,q.2]
    subst this;simp[gx,cN j]
   ·rw[F q];have:r=false:=by
     simp at h;rw[<-h];unfold df at q
     by_cases D:A.gr=true
     ·have K:o≠[]:=fun h=>q ⟨D,h⟩;simp[K]
     ·simp[D]
    subst this;simp[gx,cN j]
  all_goals simp at h
 ·cases a<;>simp only[cX]at h
  case p v=>
   cases v<;>simp only at h<;>simp at h
   all_goals subst h
   all_goals simp only[aB,aD]at i
   ·subst i;simp[gx,cN j]
   ·obtain⟨_,_,_,_,_,_,rfl⟩:=i;simp[gx,cN j]
  case map B=>
   simp only[aB,bO,bU]at i;simp only[dE]at ak
   split at h
   case h_2=>simp at h
   rename_i fz o t;rw[t]at ak;have z:=ak _ (hW.2 rfl);rw[i.2.1 ⟨_,z,trivial⟩];simp at h;subst h;simp[gx,cN j]
  all_goals simp at h
 ·cases a<;>simp only[cX]at h
  case p v=>
   cases v<;>simp only at h<;>simp at h
   all_goals subst h
   all_goals simp only[aB,aD]at i
   ·obtain⟨_,_,_,_,rfl⟩:=i;simp[gx,cN j]
   ·subst i;simp[gx,cN j]
  case func f first iq=>
   simp only[aB]at i;obtain⟨_,_,_,_,rfl⟩:=i;simp at h;subst h;simp[gx,cN j]
  all_goals simp at h
 ·cases a<;>simp only[cX]at h
  case p v=>
   cases v<;>simp only at h<;>simp at h
   all_goals subst h
   all_goals simp only[aB,aD]at i
   subst i;simp[gx,cN j,G]
  all_goals simp at h
theorem aIP{i:BinOp}{T s:c9}{x y:c6}{K:PV->Prop}{H0:Heap}(j:o.op= .binOp i T x y s)(h:kt P i T (mv y) H0 (ρ x) (ρ y) K):
 ∃v,K v/\bw P o ρ base {v:=.p v,ak:=dE H0 (ρ x)}:=by
 unfold kt at h
 split at h
 ·rename_i k a C b hx g;exact aIT j hx g h.1 h.2 _
 ·rename_i a b hx g;exact aIY j hx g h _
 ·rename_i a b hx g;obtain⟨z,h⟩:=h;have m:=Ur z;refine DZ (r:=a==b) j ?_ ?_
  ·split at h
   ·exact .inl ⟨rfl,h⟩
   ·exact .inr ⟨rfl,h⟩
   ·exact h.elim
  ·intro H w aa ah β n q e ak f c;rw[hx]at f;rw[g]at c;simp only[aB,aD]at f c;subst f;subst c;obtain⟨d,_,l⟩:=ze T (.bool a) (.bool b);rw[l];exact⟨by simp[gx,cN m],.inl ⟨_,rfl⟩,fun u v m _=>by cases m⟩
 ·rename_i u fs u' t hx g;obtain⟨B,h⟩:=h;obtain⟨r,e,c⟩:∃r,ir P 9 T (.st u fs) (.st u' t)=some r/\(i=.eql/\K (.bool r)\/i=.neq/\K (.bool !r)):=by
   split at h
   ·rename_i r e;exact⟨r,e,.inl ⟨rfl,h⟩⟩
   ·rename_i r e;exact⟨r,e,.inr ⟨rfl,h⟩⟩
   ·exact h.elim
  refine DZ (r:=r) j c ?_;intro H w aa ah β n q _ ak f c;rw[hx]at f;rw[g]at c;simp only[aB]at f c;refine⟨?_,?_,fun u v _ _=>by simpa[su]using B⟩
  ·obtain⟨d,A,l⟩:=ze T n q;rw[l];exact zj 9 T _ _ r e _ _ f c (d+1) A
  ·simp only[aD]at f;obtain⟨_,_,_,_,rfl⟩:=f;exact .inr (.inl ⟨_,rfl⟩)
 ·rename_i hx g
  split at h
  case h_2=>exact h.elim
  rename_i k hk;obtain⟨r,e,c⟩:∃r,cX H0 k (ρ x)=some r/\(i=.eql/\K (.bool r)\/i=.neq/\K (.bool !r)):=by
   split at h
   ·rename_i r e;exact⟨r,e,.inl ⟨rfl,h⟩⟩
   ·rename_i r e;exact⟨r,e,.inr ⟨rfl,h⟩⟩
   ·exact h.elim
  exact DZ (r:=r) j c fun H w aa ah β n q _ ak f c=>aGT hk e ak f c
end
section
variable{P:dk}{w:dg}{aa ah:Nat->Prop}{β:Bd}{H:Heap}
variable{o:Oper}{ρ:c6->AV}{base:Nat}
theorem nU{c:c6->da}:∀(l:List c6),(∀x∈l,aB P w aa β H (ρ x) (c x)/\aE (aI H) (ρ x))->bB P w aa β H (l.map ρ) (l.map c)/\aS (aI H) (l.map ρ)
 |[],_=>by simp[bB,aS]
 |x::l,h=>by
  have a:=h x (by simp);have b:=nU l (fun y d=>h y (by simp[d]));simp only[hw,bB,aS];exact⟨⟨_,_,rfl,a.1,b.1⟩,a.2,b.2⟩
theorem y6{H0:Heap}:∀(l:List AV){j:List PV}{ak aK:List (Nat×Obj)}{H:Heap}{aa:Nat->Prop}{vs:List da},fL H0 l=some (j,ak,aK)->bS P w aa β H ah->bB P w aa β H l vs->aS (aI H) l->
 (∀p∈ak,∃f fz t,p.2=.box fz t/\H[p.1]?=some (.box f t))->∃aF,bY P ah aa w β H aF w β (bd H aK)/\bt P w aF j vs/\∀p∈aK,p.1<H0.length/\p.2≠.hole
 |[],j,ak,aK,H,aa,vs,h,i,e,_,_=>by
  simp[fL]at h;obtain⟨rfl,rfl,rfl⟩:=h;simp only[bB]at e;exact⟨aa,bY.refl i,by simpa[bt]using e,by simp⟩
 |a::l,j,ak,aK,H,aa,vs,h,i,e,d,m=>by
  simp only[bB]at e;obtain⟨y,x,rfl,n,u⟩:=e;simp only[aS]at d;cases a with
  |p v=>
   simp only[fL]at h
   split at h
   case h_2=>simp at h
   rename_i G B E k;simp at h;obtain⟨rfl,rfl,rfl⟩:=h;obtain⟨aF,q1,o,q⟩:=y6 l k i u d.2 m;simp only[aB]at n;exact⟨aF,q1,by simp only[bt];exact⟨y,x,rfl,aD.mono q1.bR (fun _ _=>rfl) _ _ n,o⟩,q⟩
  |ptr b path=>
   cases path with
   |cons _ _=>simp[fL]at h
   |nil=>
    simp only[fL]at h
    split at h
    case h_2=>simp at h
    rename_i fz t G B E C k;simp at h;obtain⟨rfl,rfl,rfl⟩:=h;obtain⟨f,J,K,e1,e2⟩:=m (b,.box fz (.p t)) (by simp);cases e1;have D:kT H (.ptr b [])=some (.cE t,H.set b (.box true (.p t))):=by
     simp only at e2;simp[kT,e2,kV]
    obtain⟨I,g,F⟩:=KW D i n d.1;have A:b<H.length:=(hp.1 e2).1;obtain⟨z,q1,o,q⟩:=y6 l k g.rel (bB.mono g.bR (fun _ _=>rfl) g.step _ _ d.2 u) (aS.mono g.fp _ d.2) (by
     intro p c;obtain⟨f2,r,t2,g1,g2⟩:=m p (by simp[c])
     by_cases s:b=p.1
     ·rw[<-s]at g2⊢;simp only at e2;rw[e2]at g2;cases g2;exact⟨true,r,_,g1,by rw[hr A]⟩
     ·exact⟨f2,r,t2,g1,by rw[hC s];exact g2⟩)
    refine⟨z,by simpa only[bd]using g.trans q1,?_,?_⟩
    ·simp only[bt];exact⟨y,x,rfl,aD.mono q1.bR (fun _ _=>rfl) _ _ F,o⟩
    ·intro p c;rcases hA.1 c with rfl|c
     ·exact⟨(hp.1 C).1,by simp⟩
     ·exact q p c
  |_=>simp[fL]at h
theorem Vq{f:dz}{fi ca:Array c6}(E:o.op= .makeFunc (.func f) fi ca):
 (∀a b,dO (fi.toList.map ρ)=some a->dO (ca.toList.map ρ)=some b->bw P o ρ base {v:=.p (.func f a b)})/\
 bw P o ρ base {v:=.func f (fi.toList.map ρ) (ca.toList.map ρ)}/\
 (∀(H0:Heap) a b ak aK,fL H0 (fi.toList.map ρ)=some (a,[],[])->fL H0 (ca.toList.map ρ)=some (b,ak,aK)->bw P o ρ base {v:=.p (.func f a b),ak,aK}/\(∀p∈ak,H0[p.1]?=some p.2)/\(∀p∈aK,p.1<H0.length/\p.2≠.hole)):=by
 have g:∀x,x∈fi.toList\/x∈ca.toList->x∈o.op.operands:=by
  intro x hx;rw[E];simp only[gt,Array.mem_append];simpa using hx
 have u:∀(c:c6->da)(w:dg),(db c o).run P w=.ok (.value (.func (.func f) (fi.toList.map c).toArray (ca.toList.map c).toArray)) w:=by
  intro c w;simp only[db,E];refine eJ ?_;have j:(fi.toList.map c).toArray=fi.map c:=by apply cb;simp
  have k:(ca.toList.map c).toArray=ca.map c:=by apply cb;simp
  rw[j,k];simp[Instr.makeFunc]
 refine⟨?_,?_,?_⟩
 ·intro a b s m;refine bw.same fun H w aa ah β c z e _=>⟨_,u c w,?_,by simp[aE]⟩
  obtain⟨j,_⟩:=nU fi.toList (fun x hx=>e x (g x (.inl hx)));obtain⟨k,_⟩:=nU ca.toList (fun x hx=>e x (g x (.inr hx)));rw[lC s]at j;rw[lC m]at k;simp only[aB,aD];exact⟨_,_,jz.1 j,jz.1 k,rfl⟩
 ·refine bw.same fun H w aa ah β c z e _=>⟨_,u c w,?_,?_⟩
  ·simp only[aB];exact⟨_,_,(nU fi.toList (fun x hx=>e x (g x (.inl hx)))).1,(nU ca.toList (fun x hx=>e x (g x (.inr hx)))).1,rfl⟩
  ·simp only[aE];exact⟨(nU fi.toList (fun x hx=>e x (g x (.inl hx)))).2,(nU ca.toList (fun x hx=>e x (g x (.inr hx)))).2⟩
 ·intro H0 a b ak aK s m;have D:∀p∈ak,H0[p.1]?=some p.2/\∃fz t,p.2=.box fz t:=by
   have:∀(l:List AV)(b:List PV)(ak aK:List (Nat×Obj)),fL H0 l=some (b,ak,aK)->∀p∈ak,H0[p.1]?=some p.2/\∃fz t,p.2=.box fz t:=by
    intro l
    induction l with
    |nil=>intro b ak aK h;simp[fL]at h;obtain⟨rfl,rfl,rfl⟩:=h;simp
    |cons x l q=>
     intro b ak aK h;cases x with
     |p v=>
      simp only[fL]at h
      split at h
      case h_2=>simp at h
      rename_i B n A i;simp at h;obtain⟨rfl,rfl,rfl⟩:=h;exact q _ _ _ i
     |ptr J path=>
      cases path with
      |cons _ _=>simp[fL]at h
      |nil=>
       simp only[fL]at h
       split at h
       case h_2=>simp at h
       rename_i fz t B n A y i;simp at h;obtain⟨rfl,rfl,rfl⟩:=h;intro p d;rcases hA.1 d with rfl|d
       ·exact⟨y,_,_,rfl⟩
       ·exact q _ _ _ i p d
     |_=>simp[fL]at h
   exact this _ _ _ _ m
  have K:∀p∈aK,p.1<H0.length/\p.2≠.hole:=by
   have:∀(l:List AV)(b:List PV)(ak aK:List (Nat×Obj)),fL H0 l=some (b,ak,aK)->∀p∈aK,p.1<H0.length/\p.2≠.hole:=by
    intro l
    induction l with
    |nil=>intro b ak aK h;simp[fL]at h;obtain⟨rfl,rfl,rfl⟩:=h;simp
    |cons x l q=>
     intro b ak aK h;cases x with
     |p v=>
      simp only[fL]at h
      split at h
      case h_2=>simp at h
      rename_i B n A i;simp at h;obtain⟨rfl,rfl,rfl⟩:=h;exact q _ _ _ i
     |ptr J path=>
      cases path with
      |cons _ _=>simp[fL]at h
      |nil=>
       simp only[fL]at h
       split at h
       case h_2=>simp at h
       rename_i fz t B n A y i;simp at h;obtain⟨rfl,rfl,rfl⟩:=h;intro p d;rcases hA.1 d with rfl|d
       ·exact⟨(hp.1 y).1,by simp⟩
       ·exact q _ _ _ i p d
     |_=>simp[fL]at h
   exact this _ _ _ _ m
  refine⟨?_,fun p d=>(D p d).1,K⟩;intro H w aa ah β c z e n _;obtain⟨j,N⟩:=nU fi.toList (fun x hx=>e x (g x (.inl hx)));obtain⟨k,G⟩:=nU ca.toList (fun x hx=>e x (g x (.inr hx)));obtain⟨O,r,L,_⟩:=y6 _ s z j N (by simp);simp only[bd]at r;obtain⟨I,q1,M,_⟩:=y6 _ m r.rel (bB.mono r.bR (fun _ _=>rfl) r.step _ _ G k) G (by
   intro p d;obtain⟨_,fz,t,F⟩:=D p d;have C:=n p d;rw[F]at C;exact⟨fz,fz,t,F,C⟩)
  simp only[newAt,hz];refine⟨_,_,w,β,I,u c w,.inl rfl,r.trans q1,?_,by simp[aE]⟩;simp only[aB,aD];exact⟨_,_,bt.mono q1.bR (fun _ _=>rfl) _ _ L,M,rfl⟩
theorem B4{x:c6}(d:o.op=.nilCheck x)(h:(∃b p,ρ x=.ptr b p)\/(∃b v e i p,ρ x=.b6 b v e i p)\/∃t,ρ x=.p (.cE t)):bw P o ρ base {v:=ρ x}:=by
 refine bw.same fun H w aa ah β f l k ak=>?_;have c:=k x (by simp[d,gt]);refine⟨f x,?_,c⟩;have j:∃a,f x=.pointer (some a):=by
  rcases h with⟨b,p,hx⟩|⟨b,v,e,i,p,hx⟩|⟨t,hx⟩
  ·have c:=c.1;rw[hx]at c;simp only[aB,bO,bU]at c;obtain⟨_,_,_,_,h,_⟩:=c;exact⟨_,h⟩
  ·have c:=c.1;rw[hx]at c;simp only[aB,bO,bU]at c;obtain⟨_,_,_,_,h,_⟩:=c;exact⟨_,h⟩
  ·have c:=c.1;rw[hx]at c;simp only[aB,aD]at c;obtain⟨_,_,_,_,_,_,h⟩:=c;exact⟨_,h⟩
 obtain⟨a,g⟩:=j;simp[db,d,g]
end
section
variable{P:dk}{w:dg}{aa ah:Nat->Prop}{β:Bd}{H:Heap}
variable{o:Oper}{ρ:c6->AV}{base:Nat}
open Go.MapKept
def kq:PV->Prop
 | .st _ _=>False
 |_=>True
theorem DN{T:c9}{key:PV}(h:kq key)(k:PV):qp P T key k=kG key k:=by
 cases key<;>first
  |exact h.elim
  |rfl
theorem UA{T:c9}{key:PV}(h:kq key)(a:List (PV×PV)):mf P T a key=fZ P T a key:=by
 cases key<;>first
  |exact h.elim
  |rfl
theorem yI{T:c9}{key:PV}{b:da}(h:fD P T key=true)(c:kq key)(a:aD P w aa key b):∃d,P.underlying T=some d/\IsKey d b:=by
 unfold fD at h
 split at h
 ·split at h
  ·rename_i e;simp at h;subst h;simp only[aD]at a;subst a;exact⟨_,e,by simp[IsKey]⟩
  ·simp at h
 ·simp only[aD]at a;obtain⟨bs,rfl,_⟩:=a;exact⟨_,yC h,by simp[IsKey]⟩
 ·exact c.elim
 ·simp at h
theorem Ag{T:c9}{d:ed}(j:P.underlying T=some d){key g:PV}{i v':da}{r:Bool}(h:fD P T key=true)(p:kq key)(c:kG key g=some r)(e:aD P w aa key i)(f:aD P w aa g v'):
 gi d i v'=some r/\(r=true->i=v'):=by
 unfold fD at h
 split at h
 ·split at h
  ·rename_i k;simp at h;subst h;rw[j]at k;cases k;cases g<;>simp only[kG]at c<;>try (simp at c;done)
   split at c
   ·rename_i hk;subst hk;simp at c;subst c;simp only[aD]at e f;subst e;subst f;simp[gi]
   ·simp at c
  ·simp at h
 ·rename_i hs;have:=yC h;rw[j]at this;cases this;cases g<;>simp only[kG]at c<;>try (simp at c;done)
  simp at c;subst c;simp only[aD]at e f;obtain⟨a,rfl,e1⟩:=e;obtain⟨b,rfl,e2⟩:=f;subst e1;subst e2;have n:(h5 (fun x:UInt8=>x.toNat) a.data.toList=h5 (fun x:UInt8=>x.toNat) b.data.toList)↔a=b:=by
   constructor
   ·intro h;have:=BW h;apply ByteArray.ext;apply cb;exact this
   ·intro h;rw[h]
  by_cases hc:a=b
  ·subst hc;simp[gi,gm]
  ·have l:¬(h5 (fun x:UInt8=>x.toNat) a.data.toList=h5 (fun x:UInt8=>x.toNat) b.data.toList):=fun h=>hc (n.1 h);have m:(a==b)=false:=by
    cases o:(a==b)with
    |false=>rfl
    |true=>exact(hc ((gm a b).1 o)).elim
   simp[gi,l,m]
 ·exact p.elim
 ·simp at h
theorem Dc{T:c9}{d:ed}(o:P.underlying T=some d){key:PV}{g:da}(hk:fD P T key=true)(m:kq key)(l:aD P w aa key g):∀(b:List (PV×PV))(a:List dl)(i:Nat)(r:Option PV),cH P w aa b a->fZ P T b key=some r->
 (r=none/\fv d g a i=some none)\/∃v j e,r=some v/\fv d g a i=some (some (i+j,e.val))/\a[j]?=some e/\aD P w aa v e.val/\e.key=g/\
  (∀(x:PV)(k:da),aD P w aa x k->cH P w aa (gF b key x) (a.modify j fun e=>{e with key:=g,val:=k}))
 |[],a,i,r,f,h=>by
  simp only[cH]at f;simp[fZ]at h;subst f;subst h;exact .inl ⟨rfl,rfl⟩
 |(s,v')::b,a,i,r,f,h=>by
  simp only[cH]at f;obtain⟨e,rest,rfl,n,p,q⟩:=f;simp only[fZ,DN m]at h
  split at h
  ·rename_i c;simp at h;subst h;obtain⟨g1,g2⟩:=Ag o hk m c l n;refine .inr ⟨v',0,e,rfl,by simp[fv,g1],rfl,p,(g2 rfl).symm,fun x k hx=>?_⟩;simp only[gF,c,if_true];simp only[cH];exact⟨_,rest,rfl,l,hx,q⟩
  ·rename_i c;obtain⟨g1,g2⟩:=Ag o hk m c l n;rcases Dc o hk m l b rest (i+1) r q h with⟨rfl,f1⟩|⟨v,j,e',rfl,f1,f2,f3,f4,f5⟩
   ·exact .inl ⟨rfl,by simp[fv,g1,f1]⟩
   ·refine .inr ⟨v,j+1,e',rfl,by simp[fv,g1,f1];omega,by simpa using f2,f3,f4,fun x k hx=>?_⟩;simp only[gF,c];rw[if_neg (by simp)];simp only[cH];exact⟨e,_,by simp[List.modify_succ_cons],n,p,f5 x k hx⟩
  ·simp at h
theorem Jy{X:Array da}{y:c9->PV->PV->Option Bool}(e:Bool)(n:Nat):
 ∀(fs:List ea)(l:List Nat)(b:List PV)(r:Bool)(d:List da)(o:List (List da)),je P y (fs.map (·.type)) b b=some r->(∀f∈fs,f.name≠ "_" /\ub P f.type=true)->
 (∀(i:Nat)(f:ea),fs[i]?=some f->f.offset=d.length+(l.take i).sum)->bg P w aa l b o->
 X.toList=d++o.flatten->(forIn fs j1 (fun f _=>if f.name≠ "_" then(do
  let x<-part f.type X f.offset
  gb e (n+1) f.type x
  pure (ForInStep.yield j1))else pure (ForInStep.yield j1):ea->PUnit->Sem (ForInStep PUnit))).run P w=.ok j1 w
 |[],l,b,r,d,o,_,_,_,_,_=>by simp
 |f::fs,l,b,r,d,o,h,s,t,hx,q=>by
  cases b with
  |nil=>simp[je]at h
  |cons a b=>
   cases l with
   |nil=>simp[bg]at hx
   |cons m l=>
    simp only[hw,je]at h
    split at h
    case isFalse=>simp at h
    rename_i hk
    split at h
    case h_2=>simp at h
    rename_i I F H z;obtain⟨c,cs,rfl,hc,A,E⟩:=wN hx;obtain⟨C,p⟩:=s f (by simp);have D:f.offset=d.length:=by simpa using t 0 f (by simp)
    obtain⟨x,u,J⟩:=ru hk.1 hc (pre:=d) (post:=cs.flatten) (cs:=X) (by rw[q];simp);rw[<-D]at u;have v:(gb e (n+1) f.type x).run P w=.ok () w:=by
     unfold ub at p;unfold gb
     split at p
     ·rename_i k j;simp[cN j]
     ·rename_i j;simp[cN j]
     ·rename_i j;simp[cN j]
     ·cases p
    have G:=Jy e n fs l b F (d++c) cs z (fun f hf=>s f (by simp[hf])) (by
     intro i g B;have:=t (i+1) g (by simpa using B);rw[this,h6,ih,ht,A];omega) E (by rw[q];simp)
    rw[List.forIn_cons];simp only[C,ne_eq,not_false_eq_true,if_true,he,u,v,hb,hg];exact G
theorem T5{T:c9}{cM:Array ea}{u:Nat}{fs:List PV}{g:da}(b:P.underlying T=some (.struct cM))(j:cM.toList.all (fun f=>f.name != "_" &&ub P f.type)=true)(a:(ir P 9 T (.st u fs) (.st u fs)).isSome=true)(d:aD P w aa (.st u fs) g)(e:Bool):
 (gb e 10000 T g).run P w=.ok () w:=by
 obtain⟨r,a⟩:=js.1 a;unfold ir at a;simp only[b]at a
 split at a
 case isFalse=>simp at a
 rename_i hc;obtain⟨hk,-,-,-⟩:=hc;simp only[aD]at d;obtain⟨l,c,k1,k2,rfl⟩:=d;obtain⟨o,p,s1,s2,q,h,s,k⟩:=vG (P:=P) (T:=T) (u:=u) (n:=cM.size) (by unfold fU;rw[hk,b]);rw[b]at s1;cases s1;rw[k1]at h;cases h;have key:=Jy (w:=w) (aa:=aa) (X:=c.flatten.toArray) e 9998 cM.toList l fs r [] c a (fun f hf=>by
  have:=h7.1 j f hf;simpa using this) (by
   intro i f hf;have hi:i<cM.size:=by
    have:=(hp.1 hf).1;simpa using this
   obtain⟨m,g1,g2,_⟩:=k i hi;rw[cc,g1]at hf;cases hf;simpa using g2) k2 (by simp)
 unfold gb;simp only[he,cN b,hb];rw[<-Array.forIn_toList];rw[key];simp
theorem CJ{T:c9}{u:Nat}{fs:List PV}{g:da}(p:aD P w aa (.st u fs) g):∀(k:List (PV×PV))(f:List dl)(i:Nat)(r:Option PV),cH P w aa k f->fZ P T k (.st u fs)=some r->
 (r=none/\(fN T g f i).run P w=.ok none w/\∀x n born,aD P w aa x n->cH P w aa (gF k (.st u fs) x) (f++[{key:=g,val:=n,born}]))\/∃(v:PV)(j:Nat)(e:dl),r=some v/\(fN T g f i).run P w=.ok (some (i+j,e.val)) w/\aD P w aa v e.val
 |[],f,i,r,m,h=>by
  simp only[cH]at m;simp[fZ]at h;subst m;subst h;refine .inl ⟨rfl,by simp[fN],fun x n born hx=>?_⟩;simp only[gF,cH];exact⟨_,[],rfl,p,hx,rfl⟩
 |(y,v')::k,f,i,r,m,h=>by
  simp only[cH]at m;obtain⟨e,rest,rfl,s,t,z⟩:=m;simp only[fZ]at h;have q:∀b,qp P T (.st u fs) y=some b->(gy T g e.key).run P w=.ok b w/\kG (.st u fs) y=some b:=by
   intro b l;simp only[qp]at l
   split at l
   ·rename_i a c A hc;cases a<;>cases c<;>simp at l<;>subst l<;>
    ·obtain⟨d,B,hq⟩:=ze T g e.key;rw[hq];exact⟨zj 9 T _ _ _ A _ _ p s _ B,hc⟩
   ·simp at l
  split at h
  ·rename_i o;simp at h;subst h;obtain⟨g1,g2⟩:=q _ o;exact .inr ⟨v',0,e,rfl,by simp[fN,g1],t⟩
  ·rename_i o;obtain⟨g1,g2⟩:=q _ o;rcases CJ p k rest (i+1) r z h with⟨rfl,f1,f2⟩|⟨v,j,e',rfl,f1,f3⟩
   ·refine .inl ⟨rfl,by simp[fN,g1,f1],fun x n born hx=>?_⟩;simp only[gF,g2];rw[if_neg (by simp)];simp only[cH];exact⟨e,_,rfl,s,t,f2 x n born hx⟩
   ·refine .inr ⟨v,j+1,e',rfl,?_,f3⟩;simp[fN,g1,f1];omega
  ·simp at h
theorem Dd{T:c9}{cM:Array ea}(c:P.underlying T=some (.struct cM)){b:da}{a:List dl}{f:Option (Nat×da)}(h:(fN T b a 0).run P w=.ok f w):(gc T b a).run P w=.ok f w:=by
 unfold gc;simp only[he,cN c,hb];cases a with
 |nil=>
  simp only[fv];simpa[fN]using h
 |cons e es=>
  have:fv (.struct cM) b (e::es) 0=none:=by simp[fv,gi]
  rw[this];exact h
theorem Cj{T:c9}{key:PV}(h:fD P T key=true)(a:¬kq key):∃u fs cM,key= .st u fs/\P.underlying T=some (.struct cM)/\cM.toList.all (fun f=>f.name != "_" &&ub P f.type)=true/\(ir P 9 T (.st u fs) (.st u fs)).isSome=true:=by
 cases key<;>first
  |exact(a trivial).elim
  |skip
 rename_i u fs;simp only[fD]at h
 split at h
 ·rename_i cM b;rw[cC]at h;exact⟨u,fs,cM,rfl,b,h.1,h.2⟩
 ·cases h
theorem Mv{T:c9}{key:PV}{g:da}(hk:fD P T key=true)(f:aD P w aa key g){b:List (PV×PV)}{a:List dl}{r:Option PV}(l:cH P w aa b a)(h:fZ P T b key=some r):
 (∀e,(gb e 10000 T g).run P w=.ok () w)/\
 ((r=none/\(gc T g a).run P w=.ok none w)\/∃(v:PV)(j:Nat)(e:dl),r=some v/\(gc T g a).run P w=.ok (some (j,e.val)) w/\aD P w aa v e.val):=by
 by_cases i:kq key
 ·obtain⟨d,c,o⟩:=yI hk i f;refine⟨fun e=>run_checkKey c o _ 9999,?_⟩;rcases Dc c hk i f b a 0 r l h with⟨rfl,f1⟩|⟨v,j,e,rfl,f1,f2,f3,f4,_⟩
  ·exact .inl ⟨rfl,run_findKey c f1⟩
  ·exact .inr ⟨v,0+j,e,rfl,run_findKey c f1,f3⟩
 ·obtain⟨u,fs,cM,rfl,k,m,n⟩:=Cj hk i;refine⟨fun e=>T5 k m n f e,?_⟩;rcases CJ f b a 0 r l h with⟨rfl,f1,_⟩|⟨v,j,e,rfl,f1,f3⟩
  ·exact .inl ⟨rfl,Dd k f1⟩
  ·exact .inr ⟨v,0+j,e,rfl,Dd k f1,f3⟩
theorem Jr{T:c9}{key x:PV}{g i:da}(d:aD P w aa key g)(hx:aD P w aa x i)(born:Nat):∀(a:List (PV×PV))(c:List dl),kq key->cH P w aa a c->fZ P T a key=some none->cH P w aa (gF a key x) (c++[{key:=g,val:=i,born}])
 |[],c,_,b,_=>by
  simp only[cH]at b;subst b;simp only[gF,cH];exact⟨_,[],rfl,d,hx,rfl⟩
 |(n,v')::a,c,f,b,h=>by
  simp only[cH]at b;obtain⟨e,rest,rfl,j,k,l⟩:=b;simp only[fZ,DN f]at h
  split at h
  ·simp at h
  ·rename_i m;simp only[gF,m];rw[if_neg (by simp)];simp only[cH];exact⟨e,_,rfl,j,k,Jr (T:=T) d hx born a rest f l h⟩
  ·simp at h
def uy(ok:Bool)(z:PV):Option PV->PV
 |some v=>if ok then .aG [v,.bool true]else v
 |none=>if ok then .aG [z,.bool false]else z
theorem VR{T:c9}{c E:c9}{x i:c6}{ok:Bool}{key z:PV}{r:Option PV}{k:List (PV×PV)}(D:o.op= .lookup T x i ok)(g:jn P T=some (c,E))(G:cT P E=some z)(hk:fD P c key=true)(C:fZ P c k key=some r)
 {ρc:c6->da}(B:aD P w aa key (ρc i))(hx:(ρc x=.map none/\k=[])\/∃b a d,ρc x=.map (some b)/\w.heap[b]?=some (.map a d)/\cH P w aa k a.toList):
 ∃p,(db ρc o).run P w=.ok (.value p) w/\aD P w aa (uy ok z r) p:=by
 have m:P.underlying T=some (.map c E):=by
  unfold jn at g
  split at g
  ·rename_i F;simp at g;rw[F,g.1,g.2]
  ·simp at g
 obtain⟨u,t,z2⟩:=MT G;obtain⟨a,s,n⟩:∃a:Array dl,((ρc x=.map none/\a=#[])\/∃b d,ρc x=.map (some b)/\w.heap[b]?=some (.map a d))/\cH P w aa k a.toList:=by
  rcases hx with⟨hx,rfl⟩|⟨b,a,d,hx,h,n⟩
  ·exact⟨#[],.inl ⟨hx,rfl⟩,by simp[cH]⟩
  ·exact⟨a,.inr ⟨b,d,hx,h⟩,n⟩
 obtain⟨l,y⟩:=Mv hk B n C
 have q:∀(f:Option (Nat×da))(v:da)(b:Bool),(gc c (ρc i) a.toList).run P w= .ok f w->(f=none/\v=u/\b=false\/∃j,f=some (j,v)/\b=true)->
  (db ρc o).run P w=.ok (.value (if ok then .tuple #[v,.bool b]else v)) w:=by
  intro f v b hf A;simp only[db,D];refine eJ ?_;rcases A with⟨rfl,rfl,rfl⟩|⟨j,rfl,rfl⟩
  ·rcases s with⟨hx,rfl⟩|⟨b,d,hx,h⟩
   ·have hf:(gc c (ρc i) []).run P w=.ok none w:=hf;cases ok<;>simp[gg,cN m,hx,l,hf,t]
   ·cases ok<;>simp[gg,cN m,hx,gl h,l,hf,t]
  ·rcases s with⟨hx,rfl⟩|⟨b,d,hx,h⟩
   ·have hf:(gc c (ρc i) []).run P w=.ok (some (j,v)) w:=hf;cases ok<;>simp[gg,cN m,hx,l,hf]
   ·cases ok<;>simp[gg,cN m,hx,gl h,l,hf]
 rcases y with⟨rfl,f1⟩|⟨v,j,e,rfl,f1,f3⟩
 ·refine⟨_,q none u false f1 (.inl ⟨rfl,rfl,rfl⟩),?_⟩;cases ok with
  |true=>simp only[uy,if_true,aD,bt];exact⟨_,⟨_,_,rfl,z2 w aa,_,_,rfl,rfl,rfl⟩,rfl⟩
  |false=>simpa[uy]using z2 w aa
 ·refine⟨_,q _ e.val true f1 (.inr ⟨_,rfl,rfl⟩),?_⟩;cases ok with
  |true=>simp only[uy,if_true,aD,bt];exact⟨_,⟨_,_,rfl,f3,_,_,rfl,rfl,rfl⟩,rfl⟩
  |false=>simpa[uy]using f3
theorem vS{T:c9}{c E:c9}{x g:c6}{ok:Bool}{key z:PV}{r:Option PV}{es:List (PV×PV)}{ak:List (Nat×Obj)}(f:o.op= .lookup T x g ok)(n:jn P T=some (c,E))(u:cT P E=some z)(hi:ρ g= .p key)(hk:fD P c key=true)(q:fZ P c es key=some r)
 (hx:(ρ x=.p .fF/\es=[])\/ρ x=.p (.fo es)\/∃b fz,ρ x=.map b/\(b,.map fz es)∈ak):
 bw P o ρ base {v:=.p (uy ok z r),ak}:=by
 refine bw.same fun H w aa ah β y t i ak=>?_;have a:=(i x (by simp[f,gt])).1;have e:=(i g (by simp[f,gt])).1;rw[hi]at e;simp only[aB]at e;obtain⟨j,c1,c2⟩:=VR f n u hk q (ρc:=y) (w:=w) (aa:=aa) e (by
  rcases hx with⟨hx,rfl⟩|hx|⟨b,fz,hx,s⟩
  ·rw[hx]at a;simp only[aB,aD]at a;exact .inl ⟨a,rfl⟩
  ·rw[hx]at a;simp only[aB,aD]at a;obtain⟨b,d,clock,_,k,l,m⟩:=a;exact .inr ⟨b,d,clock,m,k,l⟩
  ·rw[hx]at a;simp only[aB,bO,bU]at a;have h:=ak _ s;obtain⟨d,clock,k1,k2,_⟩:=t.cF b _ h;exact .inr ⟨_,d,clock,a.2.1 ⟨_,h,trivial⟩,k1,k2⟩)
 exact⟨j,c1,by simpa only[aB]using c2,by simp[aE]⟩
theorem VK{T:c9}(e:o.op=.makeMap T none):bw P o ρ base {v:=.map base,aV:=[.map false []]}:=by
 intro H w aa ah β i b j _ d;have a:H[base]?=some .hole:=by simpa using d 0 (by simp)
 have g:(db i o).run P w=.ok (.value (.map (some w.heap.size))) {w with heap:=w.heap.push (.map #[] 0)}:=by
  simp only[db,e];exact vD (by simp[Instr.makeMap])
 have f:=tL (cap:=0) b a (ob:=.map #[] 0) (o':=.map false [])
  ⟨#[],0,by simp[Bd.at],by simp[cH],by
   simp only[cG,Bd.at,if_true,cB,if_false];exact⟨fun h=>iz _ (b.bR _ h),fun h=>iz _ (b.er _ h)⟩⟩ trivial
 refine⟨_,_,_,_,aa,g,.inl rfl,f,?_,?_⟩
 ·simp only[aB,bO,bU,lU];exact⟨rfl,fun _=>by simp[Bd.at],fun⟨L,c⟩=>by rw[hr (hp.1 a).1]at c;cases c⟩
 ·simp only[aE,lU];exact⟨_,hr (hp.1 a).1,trivial⟩
theorem DD(f:bS P w aa β H ah){b:Nat}{o o':Obj}(a:H[b]?=some o)(i:o.live)(j:o'.live)(n:∀v,o.has v->o'.has v)(l:∀L,o≠ .loop L){ob:Go.Obj}
 (_hb:β.al b<w.heap.size)(e:¬aa (β.al b)/\¬ah (β.al b))(aH:cd β H β (H.set b o'))
 (p:ft P {w with heap:=w.heap.setIfInBounds (β.al b) ob} aa β (H.set b o') ah b o')(q:o'.refs (aI (H.set b o'))):
 bY P ah aa w β H aa {w with heap:=w.heap.setIfInBounds (β.al b) ob} β (H.set b o'):=by
 refine bY.set f (hp.1 a).1 (fun _ _=>⟨rfl,rfl⟩) (fun _ x=>x) (fun _ x=>.inl x) (fun k hk=>by simpa using f.bR k hk) (by simp)
  (fun k hk _=>?_) (fun _=>.inr ⟨rfl,⟨o,a,i⟩,.inr e.1,e.2⟩) aH p q (fun r v c g=>by rw[a]at c;cases c;exact n v g) (fun L d=>by rw[a]at d;cases d;exact(l L rfl).elim)
 have m:k≠β.al b:=hk.resolve_right (fun h=>h j);simp[Ne.symm m]
theorem IZ{T t E:c9}{m k x:c6}{b:Nat}{key v:PV}{a:List (PV×PV)}{r:Option PV}(g:o.op= .mapUpdate T m k x\/o.op= .insert T m k x)(z:jn P T=some (t,E))(ac:ρ m= .map b)(hk:ρ k= .p key)(hx:ρ x= .p v)
 (hf:fD P t key=true)(f:mf P t a key=some r):bw P o ρ base {v:=.p (.aG []),ak:=[(b,.map false a)],aK:=[(b,.map false (gF a key v))]}:=by
 have N:P.underlying T=some (.map t E):=by
  unfold jn at z
  split at z
  ·rename_i O;simp at z;rw[O,z.1,z.2]
  ·simp at z
 intro H w aa ah β c U Q ak _;have G:H[b]?=some (.map false a):=by simpa using ak
 have M:m∈o.op.operands/\k∈o.op.operands/\x∈o.op.operands:=by
  rcases g with g|g<;>simp[g,gt]
 have l:=(Q m M.1).1;have q:=(Q k M.2.1).1;have B:=(Q x M.2.2).1;rw[ac]at l;rw[hk]at q;rw[hx]at B;simp only[aB,bO,bU]at l q B;have l:=l.2.1 ⟨_,G,trivial⟩;obtain⟨i,clock,k1,k2,k3⟩:=U.cF b _ G;have S:¬aa (β.al b)/\¬ah (β.al b):=by
  unfold cG at k3;rw[if_neg (by simp)]at k3;exact k3
 have F:fZ P t a key=some r:=by
  by_cases s:kq key
  ·rw[<-UA s];exact f
  ·obtain⟨u,fs,cM,rfl,_⟩:=Cj hf s;simp only[mf]at f
   split at f
   ·rename_i hq;rw[hq];exact f
   ·cases f
 have K:=(Mv hf q k2 F).1 false;have R:β.al b<w.heap.size:=(b5.1 k1).1;have aH:cd β H β (H.set b (.map false (gF a key v))):=pB G (.inr (.inr (.inl ⟨_,_,_,_,rfl,rfl⟩)))
 have J:∀(y:Array dl)(A:Nat),(ge T (c m) (c k) (c x)).run P w= .ok () {w with heap:=w.heap.setIfInBounds (β.al b) (.map y A)}->cH P w aa (gF a key v) y.toList->
  ∃n I w' aJ aF,(db c o).run P w=.ok n w'/\(n=.value I\/n=.skip/\I=undef)/\
  bY P ah aa w β H aF w' aJ (bd H ([(b,.map false (gF a key v))]++newAt base []))/\aB P w' aF aJ (bd H ([(b,.map false (gF a key v))]++newAt base [])) (.p (.aG [])) I/\
  aE (aI (bd H ([(b,.map false (gF a key v))]++newAt base []))) (.p (.aG [])):=by
  intro y A af ad;have X:(db c o).run P w=.ok .skip {w with heap:=w.heap.setIfInBounds (β.al b) (.map y A)}:=by
   rcases g with g|g<;>simp[db,g,af]
  have ag:∀D,aa D->({w with heap:=w.heap.setIfInBounds (β.al b) (.map y A)}:dg).heap[D]?=w.heap[D]?:=by
   intro D ab;have:β.al b≠D:=fun W=>S.1 (W▸ab);simp[this]
  refine⟨_,_,_,β,aa,X,.inr ⟨rfl,rfl⟩,?_,by simp[aB,aD,bt,undef],by simp[aE]⟩;simp only[newAt,hz,bd];exact DD (o':=.map false (gF a key v)) U G trivial trivial (fun _ h=>h) (fun _ h=>by cases h) R S aH ⟨y,A,by simp[R],cH.mono (fun _ x=>x) ag _ _ ad,k3⟩ trivial
 by_cases s:kq key
 case neg=>
  obtain⟨u,fs,cM,rfl,O,_,_⟩:=Cj hf s;have ae:r=none:=by
   simp only[mf]at f
   split at f
   ·simpa using f.symm
   ·cases f
  subst ae;rcases CJ q a i.toList 0 none k2 F with⟨_,f1,f2⟩|⟨v',j,e,V,_⟩
  ·have C:=Dd O f1;refine J (i.push {key:=c k,val:=c x,born:=clock}) (clock+1) ?_ ?_
   ·rw[l];simp only[ge,he,cN N,hb,gl k1,K,C,run_setObj_map _ k1]
   ·rw[cv];exact f2 v (c x) clock B
  ·cases V
 obtain⟨d,L,Y⟩:=yI hf s q;rcases Dc L hf s q a i.toList 0 r k2 F with⟨rfl,f1⟩|⟨v',j,e,rfl,f1,f2,f3,f4,f5⟩
 ·have C:=run_findKey (w:=w) L f1;refine J (i.push {key:=c k,val:=c x,born:=clock}) (clock+1) ?_ ?_
  ·rw[l];simp only[ge,he,cN N,hb,gl k1,K,C,run_setObj_map _ k1]
  ·rw[cv];exact Jr (T:=t) q B clock a i.toList s k2 F
 ·have C:=run_findKey (w:=w) L f1;have Z:i[j]?=some e:=by simpa using f2
  refine J (i.modify j fun e=>{e with key:=c k,val:=c x}) clock ?_ ?_
  ·rw[l];simp only[ge,he,cN N,hb,gl k1,K,C];simp only[i5,Z,Option.map_some,Option.getD_some,f4,run_keyThatStays Y,hb,run_setObj_map _ k1]
  ·rw[Array.toList_modify];exact f5 v (c x) B
theorem yh{v:PV}:nF v=true->kq v:=by
 cases v<;>simp[nF,kq]
theorem TO{b:Nat}{o o':Obj}(e:H[b]?=some o)(i:o.vq)(d:o'.vq):cd β H β (H.set b o'):=by
 have g:b<H.length:=(hp.1 e).1;have a:∀x,x≠b->(H.set b o')[x]?=H[x]?:=fun x hx=>hC (Ne.symm hx);have c:(H.set b o')[b]?=some o':=hr g;refine⟨?_,?_,?_,?_,?_⟩
 ·rintro x _ ⟨fz,t,h⟩;refine⟨?_,rfl⟩
  by_cases hx:x=b
  ·subst hx;rw[c]at h;cases h;exact d.elim
  ·rw[a x hx]at h;exact⟨fz,t,h⟩
 ·rintro x _ ⟨fz,t,h⟩;refine⟨?_,rfl⟩
  by_cases hx:x=b
  ·subst hx;rw[c]at h;cases h;exact d.elim
  ·rw[a x hx]at h;exact⟨fz,t,h⟩
 ·rintro x _ ⟨l,h,j⟩;refine⟨?_,rfl⟩
  by_cases hx:x=b
  ·subst hx;exact⟨o,e,i⟩
  ·rw[a x hx]at h;exact⟨l,h,j⟩
 ·intro x aA ai k f _ h
  by_cases hx:x=b
  ·subst hx;unfold eX at h;rw[c]at h;cases h;exact d.elim
  ·unfold eX at h⊢;rw[a x hx]at h;exact⟨k,f,h,ix _,Iff.rfl,fun _=>⟨rfl,rfl⟩⟩
 ·rintro x _ ⟨L,h⟩;refine⟨?_,rfl⟩
  by_cases hx:x=b
  ·subst hx;rw[c]at h;cases h;exact d.elim
  ·rw[a x hx]at h;exact⟨L,h⟩
theorem HE:∀{b:List (PV×PV)}{a:List dl},cH P w aa b a->bt P w aa (b.map (·.1)) (a.map (·.key))/\bB P w aa β H (b.map fun e=>.p e.2) (a.map (·.val))
 |[],a,h=>by
  simp only[cH]at h;subst h;simp[bt,bB]
 |(k,v)::r,a,h=>by
  simp only[cH]at h;obtain⟨e,rest,rfl,c,d,f⟩:=h;obtain⟨i1,i2⟩:=HE f;simp only[hw,bt,bB];exact⟨⟨_,_,rfl,c,i1⟩,⟨_,_,rfl,by simpa only[aB]using d,i2⟩⟩
theorem TG{b:Nat}{d:Obj}{ks:List PV}{vs:List AV}(h:bS P w aa β H ah)(g:H[b]?=some d)(a:s8 d=some (ks,vs)):
 d.vq/\(∃c f,w.heap[β.al b]?=some (.map c f)/\bt P w aa ks (c.toList.map (·.key))/\bB P w aa β H vs (c.toList.map (·.val))/\cG aa β ah false b)/\aS (aI H) vs:=by
 cases d<;>simp only[s8]at a<;>try (cases a;done)
 case map fz es=>
  cases fz
  case true=>simp at a
  simp only[Option.some.injEq,Prod.mk.injEq]at a;obtain⟨rfl,rfl⟩:=a;obtain⟨c,f,k1,k2,k3⟩:=h.cF b _ g;obtain⟨i1,i2⟩:=HE (β:=β) (H:=H) k2;exact⟨trivial,⟨c,f,k1,i1,i2,k3⟩,cL.2 fun v i=>by obtain⟨e,_,rfl⟩:=ii.1 i;trivial⟩
 case dy j k=>
  simp only[Option.some.injEq,Prod.mk.injEq]at a;obtain⟨rfl,rfl⟩:=a;exact⟨trivial,h.cF b _ g,h.refs b _ g⟩
theorem BH{T:c9}{d:ed}(n:P.underlying T=some d){key:PV}{o:da}(hk:fD P T key=true)(g:kq key)(m:aD P w aa key o):∀(ks:List PV)(vs:List AV)(c:List dl)(i:Nat)(r:Option AV),bt P w aa ks (c.map (·.key))->bB P w aa β H vs (c.map (·.val))->lj P T ks vs key=some r->
 (r=none/\fv d o c i=some none)\/∃(v:AV)(j:Nat)(e:dl),r=some v/\fv d o c i=some (some (i+j,e.val))/\aB P w aa β H v e.val/\v∈vs
 |[],vs,c,i,r,f,k,h=>by
  cases c with
  |nil=>
   cases vs with
   |nil=>simp[lj]at h;subst h;exact .inl ⟨rfl,rfl⟩
   |cons a b=>simp[lj]at h
  |cons a b=>simp[bt]at f
 |u::ks,vs,c,i,r,f,k,h=>by
  cases c with
  |nil=>simp[bt]at f
  |cons e rest=>
   cases vs with
   |nil=>simp[bB]at k
   |cons v' vs=>
    simp only[hw,bt,bB,List.cons.injEq]at f k;obtain⟨_,_,⟨rfl,rfl⟩,p,q⟩:=f;obtain⟨_,_,⟨rfl,rfl⟩,s,t⟩:=k;simp only[lj,DN g]at h
    split at h
    ·rename_i l;simp at h;subst h;obtain⟨g1,g2⟩:=Ag n hk g l m p;exact .inr ⟨v',0,e,rfl,by simp[fv,g1],s,List.mem_cons_self⟩
    ·rename_i l;obtain⟨g1,g2⟩:=Ag n hk g l m p;rcases BH n hk g m ks vs rest (i+1) r q t h with⟨rfl,f1⟩|⟨v,j,e',rfl,f1,f3,f4⟩
     ·exact .inl ⟨rfl,by simp[fv,g1,f1]⟩
     ·exact .inr ⟨v,j+1,e',rfl,by simp[fv,g1,f1];omega,f3,hB _ f4⟩
    ·simp at h
def qG(ok:Bool)(z:PV):Option AV->AV
 |some v=>if ok then .aG [v,.p (.bool true)]else v
 |none=>.p (if ok then .aG [z,.bool false]else z)
theorem He{T:c9}{f E:c9}{x k:c6}{ok:Bool}{key z:PV}{r:Option AV}{b:Nat}{ks:List PV}{vs:List AV}(i:o.op= .lookup T x k ok)(c:jn P T=some (f,E))(D:cT P E=some z)(hi:ρ k= .p key)(hk:fD P f key=true)(n:nF key=true)(B:lj P f ks vs key=some r)
 (hx:ρ x=.map b):bw P o ρ base {v:=qG ok z r,ak:=[(b,.dy ks vs)]}:=by
 refine bw.same fun H w aa ah β G s t ak=>?_;have a:=(t x (by simp[i,gt])).1;have g:=(t k (by simp[i,gt])).1;rw[hi]at g;simp only[aB]at g;rw[hx]at a;simp only[aB,bO,bU]at a;have l:H[b]?=some (.dy ks vs):=by simpa using ak
 obtain⟨y,clock,k1,k2,k3,_⟩:=s.cF b _ l;have hrefs:aS (aI H) vs:=s.refs b _ l;have a:=a.2.1 ⟨_,l,trivial⟩;have q:P.underlying T=some (.map f E):=by
  unfold jn at c
  split at c
  ·rename_i C;simp at c;rw[C,c.1,c.2]
  ·simp at c
 obtain⟨u,F,z2⟩:=MT D;obtain⟨d,h,A⟩:=yI hk (yh n) g;have m:∀e,(gb e 10000 f (G k)).run P w=.ok () w:=fun e=>run_checkKey h A _ 9999;rcases BH h hk (yh n) g ks vs y.toList 0 r k2 k3 B with⟨rfl,f1⟩|⟨v,j,e,rfl,f1,f3,f4⟩
 ·have hf:=run_findKey (w:=w) h f1;refine⟨if ok then .tuple #[u,.bool false]else u,?_,?_,by cases ok<;>simp[qG,aE]⟩
  ·simp only[db,i];refine eJ ?_;cases ok<;>simp[gg,cN q,a,gl k1,m,hf,F]
  ·cases ok with
   |true=>simp only[qG,if_true,aB,aD,bt];exact⟨_,⟨_,_,rfl,z2 w aa,_,_,rfl,rfl,rfl⟩,rfl⟩
   |false=>simpa[qG,aB]using z2 w aa
 ·have hf:=run_findKey (w:=w) h f1;refine⟨if ok then .tuple #[e.val,.bool true]else e.val,?_,?_,?_⟩
  ·simp only[db,i];refine eJ ?_;cases ok<;>simp[gg,cN q,a,gl k1,m,hf]
  ·cases ok with
   |true=>simp only[qG,if_true,aB,bB,aD];exact⟨_,⟨_,_,rfl,f3,_,_,rfl,rfl,rfl⟩,rfl⟩
   |false=>simpa[qG]using f3
  ·have:=cL.1 hrefs v f4;cases ok<;>simp[qG,aE,aS,this]
theorem HC{w:dg}{aa:Nat->Prop}{k:PV}{x:da}:∀{a:List PV}{l:List da},bt P w aa a l->aD P w aa k x->bt P w aa (a++[k]) (l++[x])
 |[],l,h,hx=>by simp only[bt]at h;subst h;simp only[h0,bt];exact⟨_,_,rfl,hx,rfl⟩
 |v::a,l,h,hx=>by
  simp only[bt]at h;obtain⟨y,d,rfl,b,c⟩:=h;simp only[List.cons_append,bt];exact⟨_,_,rfl,b,HC c hx⟩
theorem xZ{T i E:c9}{m k x:c6}{b:Nat}{key:PV}{u:Obj}{ks:List PV}{vs:List AV}(c:o.op= .mapUpdate T m k x\/o.op= .insert T m k x)(g:jn P T=some (i,E))(ab:ρ m= .map b)(hk:ρ k= .p key)
 (hf:fD P i key=true)(O:s8 u=some (ks,vs))(F:nF key=true)(Z:lj P i ks vs key=some none):bw P o ρ base {v:=.p (.aG []),ak:=[(b,u)],aK:=[(b,.dy (ks++[key]) (vs++[ρ x]))]}:=by
 have ac:P.underlying T=some (.map i E):=by
  unfold jn at g
  split at g
  ·rename_i ae;simp at g;rw[ae,g.1,g.2]
  ·simp at g
 intro H w aa ah β a G B ak _;have s:H[b]?=some u:=by simpa using ak
 have A:m∈o.op.operands/\k∈o.op.operands/\x∈o.op.operands:=by
  rcases c with c|c<;>simp[c,gt]
 have n:=(B m A.1).1;have q:=(B k A.2.1).1;obtain⟨M,N⟩:=B x A.2.2;rw[ab]at n;rw[hk]at q;simp only[aB,bO,bU]at n q;obtain⟨r,⟨l,clock,k1,k2,k3,k4⟩,af⟩:=TG G s O;have n:=n.2.1 ⟨_,s,r⟩;have D:¬aa (β.al b)/\¬ah (β.al b):=by
  unfold cG at k4;rw[if_neg (by simp)]at k4;exact k4
 obtain⟨d,z,W⟩:=yI hf (yh F) q;have R:(gb false 10000 i (a k)).run P w=.ok () w:=run_checkKey z W _ 9999;have C:β.al b<w.heap.size:=(b5.1 k1).1;have Q:b<H.length:=(hp.1 s).1;have aH:cd β H β (H.set b (.dy (ks++[key]) (vs++[ρ x]))):=TO s r trivial;rcases BH z hf (yh F) q ks vs l.toList 0 none k2 k3 Z with⟨_,f1⟩|⟨v',j,e,L,_⟩
 case inr=>cases L
 have V:=run_findKey (w:=w) z f1;have ad:(ge T (a m) (a k) (a x)).run P w=.ok () {w with heap:=w.heap.setIfInBounds (β.al b) (.map (l.push {key:=a k,val:=a x,born:=clock}) (clock+1))}:=by
  rw[n];simp only[ge,he,cN ac,hb,gl k1,R,V,run_setObj_map _ k1]
 have U:(db a o).run P w=.ok .skip {w with heap:=w.heap.setIfInBounds (β.al b) (.map (l.push {key:=a k,val:=a x,born:=clock}) (clock+1))}:=by
  rcases c with c|c<;>simp[db,c,ad]
 have I:∀t,aa t->({w with heap:=w.heap.setIfInBounds (β.al b) (.map (l.push {key:=a k,val:=a x,born:=clock}) (clock+1))}:dg).heap[t]?=w.heap[t]?:=by
  intro t Y;have:β.al b≠t:=fun S=>D.1 (S▸Y);simp[this]
 have X:∀y,aI H y->aI (H.set b (.dy (ks++[key]) (vs++[ρ x]))) y:=by
  rintro⟨y,v⟩ ⟨ai,ag,f⟩
  by_cases K:b=y
  ·subst K;exact⟨.dy (ks++[key]) (vs++[ρ x]),by simp only;rw[hr Q],trivial⟩
  ·exact⟨ai,by simp only;rw[hC K];exact ag,f⟩
 have J:aS (aI H) (vs++[ρ x]):=cL.2 fun v f=>by
  rcases h8.1 f with f|f
  ·exact cL.1 af v f
  ·rw[hW.1 f];exact N
 refine⟨_,_,_,β,aa,U,.inr ⟨rfl,rfl⟩,?_,by simp[aB,aD,bt,undef],by simp[aE]⟩;simp only[newAt,hz,bd];refine DD (o':=.dy (ks++[key]) (vs++[ρ x])) G s (by cases u<;>first|trivial|exact r.elim) trivial (fun _ _=>trivial) (fun _ h=>by rw[h]at r;exact r.elim) C D aH ⟨l.push {key:=a k,val:=a x,born:=clock},clock+1,by simp[C],?_,?_,k4⟩ (aS.mono X _ J)
 ·rw[cv,hE];exact bt.mono (fun _ x=>x) I _ _ (HC k2 q)
 ·rw[cv,hE];refine bB.mono (fun _ x=>x) I aH _ _ J (pg k3 ?_);simp only[hw,hP,bB];exact⟨_,_,rfl,M,rfl⟩
theorem x9{c:c9}{b:Nat}{key:PV}{x:AV}{a:Obj}{K:aW->Prop}(h:oZ P c b key x a K):∃ks vs,s8 a=some (ks,vs)/\nF key=true/\lj P c ks vs key=some none/\K {v:=.p (.aG []),ak:=[(b,a)],aK:=[(b,.dy (ks++[key]) (vs++[x]))]}:=by
 unfold oZ at h
 split at h
 ·rename_i ks vs d;exact⟨ks,vs,d,h⟩
 ·exact h.elim
end
section
variable{P:dk}{w:dg}{aa ah:Nat->Prop}{β:Bd}{H:Heap}
variable{o:Oper}{ρ:c6->AV}{base:Nat}
theorem UR(bs:ByteArray):gw (iY bs)=bs:=by
 unfold gw iY;apply ByteArray.ext;apply cb;simp only[hQ];have:(j4∘fun x:UInt8=>x.toNat)=id:=by funext x;simp
 rw[this];simp
theorem XZ{T:c9}{x:c6}{s:List Nat}(d:o.op=.range T x)(hx:ρ x=.p (.str s))(e:iB P T=true):bw P o ρ base {v:=.ptr base [],aV:=[.dC s 0]}:=by
 intro H w aa ah β k b j _ f;have c:H[base]?=some .hole:=by simpa using f 0 (by simp)
 have a:=(j x (by simp[d,gt])).1;rw[hx]at a;simp only[aB,aD]at a;obtain⟨bs,e1,e2⟩:=a;have i:(db k o).run P w=.ok (.value (.pointer (some ⟨w.heap.size,0,none⟩))) {w with heap:=w.heap.push (.stringIter bs 0)}:=by
  simp only[db,d,e1];exact vD (by simp[Instr.range,cN (yC e)])
 have g:=tL (cap:=0) b c (ob:=.stringIter bs 0) (o':=.dC s 0)
  ⟨bs,by simp[Bd.at],e2,by
   simp only[cG,Bd.at,if_true,cB,if_false];exact⟨fun h=>iz _ (b.bR _ h),fun h=>iz _ (b.er _ h)⟩⟩ trivial
 refine⟨_,_,_,_,aa,i,.inl rfl,g,?_,?_⟩
 ·simp only[aB,bO,bU,lU];exact⟨rfl,_,_,0,rfl,rfl,fun _=>by simp[Bd.at]⟩
 ·simp only[aE,lU];exact⟨_,hr (hp.1 c).1,trivial⟩
theorem aIW{it:c6}{b:Nat}{s:List Nat}{pos:Nat}(g:o.op= .next it true)(hx:ρ it= .ptr b []):
 (pos<s.length->bw P o ρ base {v:=.p (.aG [.bool true,.int .i64 pos,.int .i32 (hj (gw s) pos).1]),ak:=[(b,.dC s pos)],aK:=[(b,.dC s (pos+(hj (gw s) pos).2))]})/\
 (¬pos<s.length->bw P o ρ base {v:=.p (.aG [.bool false]),ak:=[(b,.dC s pos)]}):=by
 have key:∀{H:Heap}{w:dg}{aa ah:Nat->Prop}{β:Bd}{e:c6->da},bS P w aa β H ah->(∀x∈o.op.operands,aB P w aa β H (ρ x) (e x)/\aE (aI H) (ρ x))->H[b]?=some (.dC s pos)->
  e it=.pointer (some ⟨β.al b,0,none⟩)/\∃bs:ByteArray,w.heap[β.al b]?=some (.stringIter bs pos)/\s=iY bs/\(¬aa (β.al b)/\¬ah (β.al b)):=by
  intro H w aa ah β e d f a;have c:=(f it (by simp[g,gt])).1;rw[hx]at c;simp only[aB,bO,bU]at c;obtain⟨_,al,off,t,m,k,n⟩:=c;simp[gn]at k;subst k;obtain⟨rfl,rfl⟩:=n (.inr ⟨_,_,a⟩);obtain⟨bs,k1,k2,k3⟩:=d.cF b _ a;unfold cG at k3;rw[if_neg (by simp)]at k3;exact⟨m,bs,k1,k2,k3⟩
 constructor
 ·intro i H w aa ah β e d f ak _;have a:H[b]?=some (.dC s pos):=by simpa using ak
  obtain⟨c,bs,k1,rfl,k3⟩:=key d f a;have j:pos<bs.size:=by simpa[iY]using i
  have l:β.al b<w.heap.size:=(b5.1 k1).1;rw[UR];have r:(db e o).run P w=.ok (.value (.tuple #[.bool true,goInt pos,.int .i32 (hj bs pos).1])) {w with heap:=w.heap.setIfInBounds (β.al b) (.stringIter bs (pos+(hj bs pos).2))}:=by
   simp only[db,g,c];refine vD ?_;simp[gj,getObj,setObj,hh,k1,hd,j]
  have aH:cd β H β (H.set b (.dC (iY bs) (pos+(hj bs pos).2))):=pB a (.inr (.inr (.inr ⟨_,_,_,rfl,rfl⟩)));have q:=DD (o':=.dC (iY bs) (pos+(hj bs pos).2)) (ob:=.stringIter bs (pos+(hj bs pos).2)) d a trivial trivial (fun _ h=>h) (fun _ h=>by cases h) l k3 aH
   ⟨bs,by simp[l],rfl,by unfold cG;rw[if_neg (by simp)];exact k3⟩ trivial
  refine⟨_,_,_,β,aa,r,.inl rfl,?_,?_,by simp[aE]⟩
  ·simpa only[newAt,hz,bd]using q
  ·simp only[aB,aD,bt];exact⟨_,⟨_,_,rfl,rfl,_,_,rfl,rfl,_,_,rfl,rfl,rfl⟩,rfl⟩
 ·intro i;refine bw.same fun H w aa ah β e d f ak=>?_;have a:H[b]?=some (.dC s pos):=by simpa using ak
  obtain⟨c,bs,k1,rfl,k3⟩:=key d f a;have j:¬pos<bs.size:=by simpa[iY]using i
  refine⟨.tuple #[.bool false],?_,by simp only[aB,aD,bt];exact⟨_,⟨_,_,rfl,rfl,rfl⟩,rfl⟩,by simp[aE]⟩;simp only[db,g,c];refine eJ ?_;simp[gj,getObj,hh,k1,hd,j]
theorem X0{T u:c9}{x:c6}{f:Nat}{fs:Array ea}{t g:PV}{F:c9}(h:o.op= .field T x f)(hk:kindOf P T= .agg u)(b:P.underlying T=some (.struct fs))(hx:ρ x= .p t)(hs:aL t= .agg u)(e:(cM t)[f]?=some g)(q:(jv P u)[f]?=some F)(r:kindOf P F=aL g):
 bw P o ρ base {v:=.p g}:=by
 refine bw.same fun H w aa ah β K E z _=>?_;have a:=(z x (by simp[h,gt])).1;rw[hx]at a;simp only[aB]at a;cases t<;>simp[aL]at hs;rename_i u' m;subst hs;simp only[cM]at e;simp only[aD]at a;obtain⟨l,d,k1,k2,k3⟩:=a;obtain⟨D,G,s1,s2,I,j,J,A⟩:=vG (P:=P) (T:=T) (u:=u') (n:=fs.size) (by unfold fU;rw[hk,b]);rw[b]at s1;cases s1;rw[k1]at j;cases j;have s:bM P w aa ⟨id,id⟩ [] l (m.map .p) d:=nR.2 k2;obtain⟨pre,c,post,e1,e2,e3,e4,e5,_⟩:=tX (f:=.p g) (i:=f) s (by simp[e]);simp only[br]at e5;obtain⟨C,g1,g2,g3,g4,g5⟩:=A f (by omega);rw[q]at g5;cases g5;obtain⟨y,k,B⟩:=ru r e5 (pre:=pre) (post:=post) (cs:=d.flatten.toArray) (by simpa using e1);refine⟨y,?_,by simpa only[aB]using B,by simp[aE]⟩;simp only[db,h,k3];refine eJ ?_;rw[e2,<-g2]at k;simp only[Instr.field,he,cN b,hb,g1];simp[asAgg,k]
theorem Vs{T u:c9}{n:Nat}{x k:c6}{Q:ee}{i:Int}{a:List PV}{g:PV}{F:c9}(j:o.op= .index T x k)(B:hJ P T=some (u,n))(hx:ρ x= .p (.st u a))(hi:ρ k= .p (.int Q i))
 (A:0<=i)(K:i.toNat<n)(h:(jv P u)[i.toNat]?=some F)(G:a[i.toNat]?=some g)(I:kindOf P F=aL g):bw P o ρ base {v:=.p g}:=by
 refine bw.same fun H w aa ah β U S t _=>?_;have b:=(t x (by simp[j,gt])).1;have d:=(t k (by simp[j,gt])).1;rw[hx]at b;rw[hi]at d;simp only[aB,aD]at b d;obtain⟨l,m,k1,k2,k3⟩:=b;obtain⟨e,s,hk,r,L⟩:=tQ B;rw[k1]at r;cases r;have C:F=e:=by
  obtain⟨E,_,_⟩:=Ch hk;have D:(P.info? u).map (fun i:TypeInfo=>i.desc)=some (.array n e):=by rw[E,<-B0,s]
  unfold jv at h;rw[D]at h;have q:(hv n e)[i.toNat]?=some F:=h;rw[List.getElem?_replicate,if_pos K]at q;exact(Option.some.inj q).symm
 subst C;have M:bM P w aa ⟨id,id⟩ [] (hv n (P.cellsOf F)) (a.map .p) m:=nR.2 k2;obtain⟨pre,c,post,e1,e2,e3,e4,e5,_⟩:=tX (f:=.p g) (i:=i.toNat) M (by simp[G]);simp only[br]at e5;obtain⟨y,z,R⟩:=ru I e5 (pre:=pre) (post:=post) (cs:=m.flatten.toArray) (by simpa using e1);have N:((hv n (P.cellsOf F)).take i.toNat).sum=i.toNat*P.cellsOf F:=by rw[List.take_replicate,Nat.min_eq_left (by omega),List.sum_replicate_nat]
 have O:(sizeOf F).run P w=.ok (P.cellsOf F) w:=by
  cases hi:P.info? F with
  |none=>simp[Program.cellsOf,hi]at L
  |some i=>simp[sizeOf,typeInfo,hi,Program.cellsOf]
 refine⟨y,?_,by simpa only[aB]using R,by simp[aE]⟩;simp only[db,j,k3,d];refine eJ ?_;have J:i<(n:Int):=by omega
 rw[e2,N]at z;simp only[Instr.index,asIntOf,he,hg,cN s,hb];simp[A,J,O,z]
theorem Jd{k:ee}{f:Bool}{ρc:c6->da}:∀(l:List c6)(a n:Int),l8 k f (l.map ρ) a=some n->(∀x∈l,aB P w aa β H (ρ x) (ρc x))->
 ((l.map ρc).foldlM (if f then e6 else ew) (.int k a)).run P w=.ok (.int k n) w
 |[],a,n,h,_=>by simp[l8]at h;subst h;simp
 |x::l,a,n,h,g=>by
  simp only[hw]at h;unfold l8 at h
  split at h
  ·rename_i e;cases e
  ·rename_i j b r a' e;simp at e;obtain⟨e1,rfl⟩:=e
   split at h
   case isFalse=>simp at h
   rename_i hk;subst hk;have d:=g x (by simp);rw[e1]at d;simp only[aB,aD]at d;have c:=Jd l _ n h (fun y i=>g y (by simp[i]));simp only[hw,List.foldlM_cons,he,d];cases f with
   |true=>simp only[if_true,e6,hg,hb]at c⊢;exact c
   |false=>simp only[cB,if_false,ew,hg,hb]at c⊢;exact c
  ·simp at h
theorem Ku{c:Call}{isMax:Bool}{k:ee}{a n:Int}{r:List AV}(m:o.op= .call c)(hc:c.callee= .builtin (if isMax then .max else .min))(b:c.args.toList.map ρ= .p (.int k a)::r)(h:l8 k isMax r a=some n):
 bw P o ρ base {v:=.p (.int k n)}:=by
 obtain⟨x,l,i⟩:∃x l,c.args.toList=x::l:=by
  cases s:c.args.toList with
  |nil=>rw[s]at b;simp at b
  |cons x l=>exact⟨x,l,rfl⟩
 rw[i]at b;simp at b;obtain⟨hx,rfl⟩:=b;have g:c.args=(x::l).toArray:=by apply cb;simpa using i
 have j:∀y∈x::l,y∈o.op.operands:=by
  intro y f;rw[m];simp only[gt,fm,hc,g];simpa using f
 refine bw.same fun H w aa ah β t u q _=>⟨.int k n,?_,by simp[aB,aD],by simp[aE]⟩
 have d:=(q x (j x (by simp))).1;rw[hx]at d;simp only[aB,aD]at d;have e:=Jd (ρc:=t) l a n h (fun y f=>(q y (j y (by simp[f]))).1);simp only[db,m,resolve,hc,g];cases isMax with
 |true=>
  simp only[if_true]at e⊢;simp[invoke,builtin,e9,d,e]
 |false=>
  simp only[cB,if_false]at e⊢;simp[invoke,builtin,e8,d,e]
theorem aIS{c:Call}{d x:c6}{sz b aA off len:Nat}{k:AK}{f g:List AV}{H0:Heap}(V:o.op= .call c)(hc:c.callee= .builtin .copy)(Q:c.args.toList=[d,x])(ar:c.argTypes.size=2)(t:cR P (c.argTypes.getD 0 0)=some sz)
 (ad:ρ d=.sl b aA sz off len)(hx:gO H0 (ρ x)=some g)(aq:fg P sz g)(hk:k≠.frozen)(G:off+len<=f.length)(C:¬df k f):
 bw P o ρ base {v:=.p (.int .i64 (min g.length len:Nat)),ak:=(b,.arr k aA sz f)::dE H0 (ρ x),aK:=[(b,.arr k aA sz (f.take off++g.take (min g.length len)++f.drop (off+min g.length len)))]}:=by
 obtain⟨T,X,O⟩:∃T X,c.argTypes=#[T,X]:=by
  obtain⟨l,G⟩:∃l,l=c.argTypes.toList:=⟨_,rfl⟩
  have s:l.length=2:=by rw[G];simpa using ar
  match l,s with
  |[a,b],_=>exact⟨a,b,by apply cb;simp[<-G]⟩
 have I:d∈o.op.operands/\x∈o.op.operands:=by
  have ac:c.args=#[d,x]:=by apply cb;simpa using Q
  rw[V];simp[gt,fm,hc,ac]
 have e1:c.argTypes.getD 0 0=T:=by rw[O];rfl
 rw[e1]at t;obtain⟨e,i,t⟩:=ke t;intro H w aa ah β ab D M ak _;have r:H[b]?=some (.arr k aA sz f):=ak (b,_) (by simp);have j:=(M d I.1).1;rw[ad]at j;simp only[aB,bO,bU]at j;obtain⟨_,_,j⟩:=j.2 k f r;have j:=j C;rcases D.cF b _ r with hold|⟨cs,E,aC,rest,k1,k2,k3,k4,k5,k6,k7,k8⟩
 ·exact(C hold).elim
 have S:¬aa (β.al b)/\¬ah (β.al b):=by
  unfold cG at k7;rw[if_neg (by simpa using hk)]at k7;exact k7
 obtain⟨az,av,aw,ax,ay⟩:=wD (qh hx (fun p am=>ak p (hB _ am))) D (M x I.2).1 (M x I.2).2 aq;obtain⟨n,U⟩:∃n,n=min g.length len:=⟨_,rfl⟩
 rw[<-U];have Z:=ay w rfl n (by omega);obtain⟨y,m,z,g1,g2,g3,g4,g5⟩:=jM av 0 n (by omega);have au:y=[]:=by have:=(fT g4).1;simpa using this
 subst au;have ai:az.take n=m:=by
  have:=(fT g2).1;rw[g1];simp at this⊢;rw[List.take_left' (by omega)]
 rw[ai]at Z;simp only[h2]at g2;obtain⟨a,N,q,f1,f2,f3,f4,f5⟩:=jM k2 off n (by omega);have J:m.flatten.length=n*sz:=by have:=(fT g2).2;rw[this];congr 1;simp;omega
 have K:N.flatten.length=n*sz:=by have:=(fT f2).2;rw[this];congr 1;simp;omega
 have R:cs.toList=a.flatten++N.flatten++(q.flatten++rest):=by rw[k3,f1];simp
 have Y:cs.size=a.flatten.length+N.flatten.length+(q.flatten++rest).length:=by
  have:=congrArg hZ R;simp only[ht,ce]at this;rw[this,ht]
 have L:=ec P (β.al b) (off*sz) E m.flatten 0 cs w k1 (by rw[Y,f3,J,K];simp only[i0];exact i4 _ _) (wM g2);simp only[i0]at L;have aV:cs.toList.take (off*sz)++m.flatten++cs.toList.drop (off*sz+m.flatten.length)=a.flatten++m.flatten++(q.flatten++rest):=by
  rw[R,<-f3,J,<-K];exact B2 _ _ _ _
 rw[aV]at L;have ao:(eq c.argTypes o.type #[ab d,ab x]).run P w=.ok (goInt n) (w.setRow (β.al b) (a.flatten++m.flatten++(q.flatten++rest)).toArray):=by
  rw[O,j];have aj:Nat.min g.length len=n:=U.symm;have aF:∀(p:Option Addr)(n c:Nat),fb (.slice p n c)=pure n:=fun _ _ _=>rfl;simp[eq,cN t.gz,ax,aj,t.run,Z,L]
 have B:(f.take off++g.take n++f.drop (off+n)).length=f.length:=by simp;omega
 have aH:cd β H β (H.set b (.arr k aA sz (f.take off++g.take n++f.drop (off+n)))):=pB r (.inr (.inl ⟨_,_,_,_,_,rfl,rfl,B.symm⟩));have ap:∀A,aa A->(w.setRow (β.al b) (a.flatten++m.flatten++(q.flatten++rest)).toArray).heap[A]?=w.heap[A]?:=fun A ag=>dp w _ A _ (fun F=>S.1 (F▸ag));have hrefs:aS (aI H) (f.take off++g.take n++f.drop (off+n)):=by
  have W:=cL.1 (D.refs b _ r);refine jL (jL ?_ ?_) ?_
  ·rw[cL];exact fun v u=>W v (hD u)
  ·rw[cL];exact fun v u=>cL.1 aw v (hD u)
  ·rw[cL];exact fun v u=>W v (hL u)
 have ae:=ma r (o:=.arr k aA sz (f.take off++g.take n++f.drop (off+n))) (fun _ h=>h);have al:¬df k (f.take off++g.take n++f.drop (off+n)):=fun h=>C ⟨h.1,by have s:=h.2;rw[<-hN]at s⊢;rw[B]at s;exact s⟩;have an:=qI D r C (o':=.arr k aA sz (f.take off++g.take n++f.drop (off+n))) al (fun _ h=>h) k1 (new:=(a.flatten++m.flatten++(q.flatten++rest)).toArray) S aH
  (.inr ⟨_,E,a++m++q,rest,dq w _ _ _ E _ k1,by
   refine Row.mono (fun _ x=>x) ap aH hrefs (lr.2 ⟨_,_,rfl,lr.2 ⟨_,_,rfl,f4,g2⟩,f5⟩),by simp,by
   rw[<-k4,Y];simp only[hF,ht,J,K],by rw[B];exact k5,fun F=>by rw[B];exact k6 F,k7,(fun af=>(hk af).elim),k8.2⟩) (aS.mono ae _ hrefs)
 refine⟨_,_,_,β,aa,W2 V hc Q ao,.inl rfl,?_,by simp[aB,aD,goInt],by simp[aE]⟩;simpa only[newAt,hz,bd]using an
end
section
variable{P:dk}{w:dg}{aa ah:Nat->Prop}{β:Bd}{H:Heap}
variable{o:Oper}{ρ:c6->AV}{base:Nat}
theorem zE{c:Call}{x:c6}(e:o.op=.call c){b:Builtin}(hc:c.callee=.builtin b)(d:c.args.toList=[x]):x∈o.op.operands/\c.args=#[x]:=by
 have a:c.args=#[x]:=by apply cb;simpa using d
 refine⟨?_,a⟩;rw[e];simp only[gt,fm,hc,a];simp
theorem yB{T:c9}{a:AV}(h:gW P T a=true)(hs:(∃b v e i l,a=.sl b v e i l)\/a=.p .aP\/∃f c,a=.p (.bP f c)):∃e,P.underlying T=some (.slice e):=by
 rcases hs with⟨b,v,e,i,l,rfl⟩|rfl|⟨f,c,rfl⟩<;>
 ·simp only[gW]at h
  split at h
  ·rename_i e d;exact⟨e,d⟩
  ·simp at h
theorem aIR{c:Call}{x:c6}{n:Nat}{ak:List (Nat×Obj)}{H0:Heap}(y:o.op= .call c)(hc:c.callee= .builtin .cap)(A:c.args.toList=[x])(a:AA H0 (ρ x)=some (n,ak))(m:gW P (c.argTypes.getD 0 0) (ρ x)=true)(F:0<c.argTypes.size):
 bw P o ρ base {v:=.p (.int .i64 n),ak}/\(∀p∈ak,H0[p.1]?=some p.2):=by
 obtain⟨q,B⟩:=zE y hc A;have C:c.argTypes[0]?=some (c.argTypes.getD 0 0):=by simp[cy,F]
 generalize c.argTypes.getD 0 0=T at*
 have j:∀{H:Heap}{w:dg}{aa:Nat->Prop}{β:Bd}{f:c6->da},(∃p l,f x= .slice p l n)->(∃e,P.underlying T=some (.slice e))->
  ∃s,(db f o).run P w=.ok (.value s) w/\aB P w aa β H (.p (.int .i64 n)) s/\aE (aI H) (.p (.int .i64 n)):=by
  rintro H w aa β f ⟨p,l,hx⟩ ⟨e,G⟩;refine⟨goInt n,?_,by simp[aB,aD,goInt],by simp[aE]⟩;simp only[db,y,resolve,hc,B];simp[invoke,builtin,fd,C,hx,cN G]
 unfold AA at a
 split at a
 ·rename_i hx;simp at a;obtain⟨rfl,rfl⟩:=a;refine⟨bw.same fun H w aa ah β f r g ak=>j ?_ (yB m (.inr (.inl hx))),by simp⟩;have d:=(g x q).1;rw[hx]at d;simp only[aB,aD]at d;exact⟨_,_,d⟩
 ·rename_i i hx;simp at a;obtain⟨rfl,rfl⟩:=a;refine⟨bw.same fun H w aa ah β f r g ak=>j ?_ (yB m (.inr (.inr ⟨_,_,hx⟩))),by simp⟩;have d:=(g x q).1;rw[hx]at d;simp only[aB,aD]at d;obtain⟨_,_,cap,_,_,_,_,_,z,_,_,_,k⟩:=d;exact⟨_,_,by rw[k,z trivial]⟩
 ·rename_i b aA ai off len hx
  split at a
  case h_2=>simp at a
  rename_i L K i E
  split at a
  case isFalse=>simp at a
  rename_i D;obtain⟨rfl,rfl,hle⟩:=D;simp at a;obtain⟨rfl,rfl⟩:=a;refine⟨bw.same fun H w aa ah β f r g ak=>j ?_ (yB m (.inl ⟨_,_,_,_,_,hx⟩)),by simpa using E⟩;have u:H[b]?=some (.arr .exact aA ai i):=by simpa using ak
  have d:=(g x q).1;rw[hx]at d;simp only[aB,bO,bU]at d;obtain⟨_,_,k⟩:=d.2 _ _ u;have t:¬df .exact i:=fun h=>by simp[df,AK.gr]at h
  rcases r.cF b _ u with hold|⟨cs,I,J,rest,k1,k2,k3,k4,k5,k6,_⟩
  ·exact(t hold).elim
  exact⟨_,_,by rw[k t,k6 rfl]⟩
 ·simp at a
theorem Uk{c:Call}{x:c6}(b:o.op= .call c)(hc:c.callee= .builtin .clear)(f:c.args.toList=[x])(hx:ρ x= .p .aP)(d:gW P (c.argTypes.getD 0 0) (ρ x)=true)(j:0<c.argTypes.size):
 bw P o ρ base {v:=.p (.aG [])}:=by
 obtain⟨i,g⟩:=zE b hc f;have h:c.argTypes[0]?=some (c.argTypes.getD 0 0):=by simp[cy,j]
 generalize c.argTypes.getD 0 0=T at*;obtain⟨e,k⟩:=yB d (.inr (.inl hx));refine bw.same fun H w aa ah β n m l ak=>?_;have a:=(l x i).1;rw[hx]at a;simp only[aB,aD]at a;refine⟨.tuple #[],?_,by simp[aB,aD,bt],by simp[aE]⟩;simp only[db,b,resolve,hc,g];simp[invoke,builtin,em,h,a,cN k]
theorem X1{c:Call}{x:c6}{sz b aA off len:Nat}{k:AK}{d:List AV}{z:PV}(M:o.op= .call c)(hc:c.callee= .builtin .clear)(W:c.args.toList=[x])(al:0<c.argTypes.size)(l:cR P (c.argTypes.getD 0 0)=some sz)
 (am:cT P (eB P (c.argTypes.getD 0 0))=some z)(au:bI P (aL z)=sz)(hx:ρ x=.sl b aA sz off len)(hk:k≠.frozen)(ad:off+len<=d.length)(t:¬df k d)(ar:0<len):
 bw P o ρ base {v:=.p (.aG []),ak:=[(b,.arr k aA sz d)],aK:=[(b,.arr k aA sz (d.take off++hv len (.p z)++d.drop (off+len)))]}:=by
 obtain⟨ae,X⟩:=zE M hc W;have Y:c.argTypes[0]?=some (c.argTypes.getD 0 0):=by simp[cy,al]
 obtain⟨e,i,l⟩:=ke l;obtain⟨av,r,U,z2,z3,z4⟩:=pf am;rw[l.qB]at U;intro H w aa ah β V D ap ak _;have j:H[b]?=some (.arr k aA sz d):=ak (b,_) (by simp);have g:=(ap x ae).1;rw[hx]at g;simp only[aB,bO,bU]at g;obtain⟨_,_,g⟩:=g.2 k d j;have g:=g t;rcases D.cF b _ j with hold|⟨cs,u,aq,rest,k1,k2,k3,k4,k5,k6,k7,k8⟩
 ·exact(t hold).elim
 have K:¬aa (β.al b)/\¬ah (β.al b):=by
  unfold cG at k7;rw[if_neg (by simpa using hk)]at k7;exact k7
 have Q:=z3 w aa;have R:r.cells.size=sz:=by have:=(nO Q).1;simp at this;omega
 have ao:r.cells.toList.length=sz:=by simpa using R
 have E:=vH (β:=β) (H:=H) Q len;rw[ao]at E;obtain⟨m,L⟩:∃m,m=hv len r.cells.toList:=⟨_,rfl⟩
 rw[<-L]at E;have F:Row P w aa β H sz (hv len (.p z)) m:=by
  exact E
 obtain⟨a,I,f,f1,f2,f3,f4,f5⟩:=jM k2 off len ad;have B:m.flatten.length=len*sz:=by have:=(fT F).2;rw[this];simp
 have C:I.flatten.length=len*sz:=by have:=(fT f2).2;rw[this];congr 1;simp;omega
 have J:cs.toList=a.flatten++I.flatten++(f.flatten++rest):=by rw[k3,f1];simp
 have O:cs.size=a.flatten.length+I.flatten.length+(f.flatten++rest).length:=by
  have:=congrArg hZ J;simp only[ht,ce]at this;rw[this,ht]
 have G:=ec P (β.al b) (off*sz) u m.flatten 0 cs w k1 (by rw[O,f3,B,C];simp only[i0];exact i4 _ _) (wM F);simp only[i0]at G;have aV:cs.toList.take (off*sz)++m.flatten++cs.toList.drop (off*sz+m.flatten.length)=a.flatten++m.flatten++(f.flatten++rest):=by
  rw[J,<-f3,B,<-C];exact B2 _ _ _ _
 rw[aV]at G;have an:(eo r.cells len).toList=m.flatten:=by
  have:=yH r.cells len (by rw[R];exact l.pos);rw[L,<-this];rfl
 have ai:(db V o).run P w=.ok (.value (.tuple #[])) (w.setRow (β.al b) (a.flatten++m.flatten++(f.flatten++rest)).toArray):=by
  obtain⟨S,rfl⟩:∃S,len=S+1:=⟨len-1,by omega⟩
  simp only[db,M,resolve,hc,X];generalize c.argTypes.getD 0 0=T at*;simp only[he,hg,hb,invoke,builtin,hM,hw,hP];have key:(em c.argTypes o.type #[V x]).run P w=.ok (.tuple #[]) (w.setRow (β.al b) (a.flatten++m.flatten++(f.flatten++rest)).toArray):=by
   simp[em,Y,g,cN l.gz,tJ U z2,an,G]
  rw[key];rfl
 have s:(d.take off++hv len (AV.p z)++d.drop (off+len)).length=d.length:=by simp;omega
 have aH:cd β H β (H.set b (.arr k aA sz (d.take off++hv len (.p z)++d.drop (off+len)))):=pB j (.inr (.inl ⟨_,_,_,_,_,rfl,rfl,s.symm⟩));have aj:∀q,aa q->(w.setRow (β.al b) (a.flatten++m.flatten++(f.flatten++rest)).toArray).heap[q]?=w.heap[q]?:=fun q ac=>dp w _ q _ (fun A=>K.1 (A▸ac));have hrefs:aS (aI H) (d.take off++hv len (AV.p z)++d.drop (off+len)):=by
  have N:=cL.1 (D.refs b _ j);refine jL (jL ?_ ?_) ?_
  ·rw[cL];exact fun v n=>N v (hD n)
  ·rw[cL];intro v n;rw[List.eq_of_mem_replicate n];simp[aE]
  ·rw[cL];exact fun v n=>N v (hL n)
 have Z:=ma j (o:=.arr k aA sz (d.take off++hv len (.p z)++d.drop (off+len))) (fun _ h=>h);have af:¬df k (d.take off++hv len (AV.p z)++d.drop (off+len)):=fun h=>t ⟨h.1,by have y:=h.2;rw[<-hN]at y⊢;rw[s]at y;exact y⟩;have ag:=qI D j t (o':=.arr k aA sz (d.take off++hv len (AV.p z)++d.drop (off+len))) af (fun _ h=>h) k1 (new:=(a.flatten++m.flatten++(f.flatten++rest)).toArray) K aH
  (.inr ⟨_,u,a++m++f,rest,dq w _ _ _ u _ k1,by
   refine Row.mono (fun _ x=>x) aj aH hrefs (lr.2 ⟨_,_,rfl,lr.2 ⟨_,_,rfl,f4,F⟩,f5⟩),by simp,by
   rw[<-k4,O];simp only[hF,ht,B,C],by rw[s];exact k5,fun A=>by rw[s];exact k6 A,k7,(fun ab=>(hk ab).elim),k8.2⟩) (aS.mono Z _ hrefs)
 refine⟨_,_,_,β,aa,ai,.inl rfl,?_,by simp[aB,aD,bt],by simp[aE]⟩;simpa only[newAt,hz,bd]using ag
theorem B6{c:Call}{x:c6}{v:AV}{ak:List (Nat×Obj)}{H0:Heap}(l:o.op= .call c)(hc:c.callee= .builtin .unsafeSliceData)(n:c.args.toList=[x])
 (h:(ρ x=.p .aP/\v=.p .dM/\ak=[])\/∃b aA ai off len k a,ρ x=.sl b aA ai off len/\H0[b]?=some (.arr k aA ai a)/\ak=[(b,.arr k aA ai a)]/\((df k a/\v=.p .dM)\/(0<len/\off+len<=a.length/\v=.b6 b aA ai off []))):
 bw P o ρ base {v,ak}:=by
 obtain⟨s,q⟩:=zE l hc n;refine bw.same fun H w aa ah β m t y r=>?_;obtain⟨d,i⟩:=y x s;have g:∀f,(e7 c.argTypes o.type #[m x]).run P w=.ok f w->(db m o).run P w=.ok (.value f) w:=by
  intro f u;simp only[db,l,resolve,hc,q];simp only[he,hg,hb,invoke,builtin,hM,hw,hP];rw[u];rfl
 rcases h with⟨hx,rfl,rfl⟩|⟨b,aA,ai,off,len,k,a,hx,D,rfl,h⟩
 ·rw[hx]at d;simp only[aB,aD]at d;exact⟨_,g _ (by rw[d];exact Lib.run_unsafeSliceData_nil w _ _ _ _),by simp[aB,aD],by simp[aE]⟩
 ·have j:H[b]?=some (.arr k aA ai a):=by simpa using r
  rw[hx]at d i;simp only[aB,bO,bU]at d;obtain⟨_,v2,v3⟩:=d.2 k a j;rcases h with⟨e,rfl⟩|⟨E,hle,rfl⟩
  ·exact⟨_,g _ (by rw[v2 e];exact Lib.run_unsafeSliceData_nil w _ _ _ _),by simp[aB,aD],by simp[aE]⟩
  ·have e:¬df k a:=fun h=>by rw[h.2]at hle;simp at hle;omega
   rcases t.cF b _ j with hold|⟨cs,z,A,rest,k1,k2,k3,k4,k5,_⟩
   ·exact(e hold).elim
   refine⟨_,g _ (by rw[v3 e];exact Lib.run_unsafeSliceData_row w _ _ _ _ _ (by omega)),?_,by simpa only[aE]using i⟩;simp only[aB,bO,bU];refine⟨by simp[hl],β.al b,off*ai,0,by simp,rfl,fun F B C _=>⟨rfl,by simp⟩⟩
theorem Xl(w:dg)(a:Addr)(n:Nat):(w.freeze a n).os=w.os/\(w.freeze a n).output=w.output:=by
 unfold hn
 first|exact⟨rfl,rfl⟩|(split<;>exact⟨rfl,rfl⟩)
theorem Xe{w':dg}(j:bS P w aa β H ah){b:Nat}{o:Obj}(i:H[b]?=some o)(v:o.live)(g:¬aa (β.al b)/\¬ah (β.al b))(C:∀L,o≠ .loop L)(D:w'.heap.size=w.heap.size)
 (hs:∀k,k≠β.al b->w'.heap[k]?=w.heap[k]?)(B:w'.os=w.os/\w'.output=w.output:=by exact⟨rfl,rfl⟩):bY P ah aa w β H aa w' β (H.set b .dead):=by
 have n:b<H.length:=(hp.1 i).1;have c:∀(x:Nat)(a:Obj),(H.set b Obj.dead)[x]?=some a->a≠.dead->H[x]?=some a:=by
  intro x a hx q
  by_cases l:b=x
  ·subst l;rw[hr n]at hx;cases hx;exact(q rfl).elim
  ·rwa [hC l]at hx
 have aH:cd β H β (H.set b .dead):=by
  refine⟨?_,?_,?_,?_,?_⟩
  ·rintro x _ ⟨f,t,h⟩;exact⟨⟨f,t,c _ _ h (by simp)⟩,rfl⟩
  ·rintro x _ ⟨f,t,h⟩;exact⟨⟨f,t,c _ _ h (by simp)⟩,rfl⟩
  ·rintro x _ ⟨E,h,p⟩;exact⟨⟨E,c _ _ h (fun e=>by rw[e]at p;exact p.elim),p⟩,rfl⟩
  ·intro x aA ai k y _ h;exact⟨k,y,c _ _ h (by simp),ix _,Iff.rfl,fun _=>⟨rfl,rfl⟩⟩
  ·rintro x _ ⟨L,h⟩;exact⟨⟨L,c _ _ h (by simp)⟩,rfl⟩
 have m:bY P ah aa w β H aa w β (H.set b .dead):=
  bY.set j n (fun _ _=>⟨rfl,rfl⟩) (fun _ x=>x) (fun _ x=>.inl x) j.bR (ix _) (fun _ _ _=>rfl) (fun h=>h.elim) aH trivial trivial (fun _ _ _ _=>trivial) (fun L s=>by rw[i]at s;cases s;exact(C L rfl).elim)
 have hx:=j.mQ i v;have z:=m.rel.Lp hx (fun x a r d u=>by
  have q:a≠.dead:=fun e=>by rw[e]at d;exact d
  have l:x=b:=j.inj x b a o (c _ _ r q) i d v (fun hi=>g.1 (u▸hi)) u;subst l;rw[hr n]at r;cases r;exact d)
 have A:=z.shut (w':=w') (Prot0:=ah) (fun _ h=>.inl h) (R:=fun k=>k=β.al b) (fun x e=>⟨.inr e,e▸g.1⟩) D (fun k hk=>hs k hk);refine⟨fun _ h=>h,fun _ h=>.inl h,⟨by omega,fun k hk=>hs k (fun e=>?_),B⟩,aH,A,m.fp,m.loop⟩;rcases hk with hk|hk
 ·exact g.2 (e▸hk)
 ·exact g.1 (e▸hk)
theorem CE:∀{d:List AV}{l:List Nat}{b:List (List da)},bytesOf d=some l->Row P w aa β H 1 d b->b.flatten=l.map (fun c=>hm .u8 (c:Nat))/\l.length=d.length/\∀c∈l,c<256
 |[],l,b,h,a=>by
  simp[bytesOf]at h;subst h;rw[im]at a;subst a;simp
 |v::d,l,b,h,a=>by
  unfold bytesOf at h
  split at h
  ·rename_i e;cases e
  ·rename_i c r e;simp at e;obtain⟨rfl,rfl⟩:=e
   split at h
   case isFalse=>simp at h
   rename_i hc
   split at h
   case h_2=>simp at h
   rename_i m i;simp at h;subst h;rw[qP]at a;obtain⟨j,cs,rfl,f,k,g⟩:=a;obtain⟨i1,i2,i3⟩:=CE i g;simp only[br,aR]at f;subst f;refine⟨by simp[i1];omega,by simp[i2],?_⟩;intro x hx;rcases hA.1 hx with rfl|hx
   ·omega
   ·exact i3 x hx
  ·simp at h
theorem Uw{S D e:c9}{x:c6}{b aA off len:Nat}{k:AK}{d:List AV}{l:List Nat}(r:o.op= .convert S D x)(B:P.underlying S=some (.slice e))(y:P.underlying D=some .string)(A:P.underlying e=some (.int .u8))(hx:ρ x= .sl b aA 1 off len)
 (M:0<len)(j:off+len<=d.length)(E:bytesOf ((d.drop off).take len)=some l):bw P o ρ base {v:=.p (.str l),ak:=[(b,.arr k aA 1 d)]}:=by
 refine bw.same fun H w aa ah β N G J ak=>?_;have q:H[b]?=some (.arr k aA 1 d):=by simpa using ak
 have f:=(J x (by simp[r,gt])).1;rw[hx]at f;simp only[aB,bO,bU]at f;have n:¬df k d:=fun h=>by rw[h.2]at j;simp at j;omega
 have f:=(f.2 _ _ q).2.2 n;rcases G.cF b _ q with hold|⟨cs,K,L,rest,k1,k2,k3,k4,k5,k6,k7,k8⟩
 ·exact(n hold).elim
 obtain⟨a,m,z,g1,g2,g3,g4,g5⟩:=jM k2 off len j;obtain⟨s,t,u⟩:=CE E g2;have F:l.length=len:=by rw[t];simp;omega
 have C:cs.toList=a.flatten++(l.map (fun c=>hm .u8 (c:Nat))++(z.flatten++rest)):=by
  rw[k3,g1];simp only[hV,hG,s]
 have I:=run_convert_bytes_arg (P:=P) w S e B A (β.al b) (off*1) len (β.cap b-off) (l.map fun c:Nat=>(c:Int)) (by simpa using F) (fun i hi=>by
  have g:i<l.length:=by omega
  have:cs[off*1+i]?=some (.int .u8 (l[i]:Nat)):=by
   rw[<-cc,C,List.getElem?_append_right (by omega),g3,Nat.add_sub_cancel_left,h3 (by simpa using g),hX,h4 g];rfl
  rw[List.getD_eq_getElem?_getD,hX,h4 g];simp only[ho,k1];simpa using this) D y
 refine⟨.string (strOfNums (l.map fun c:Nat=>(c:Int))),?_,?_,by simp[aE]⟩
 ·simp only[db,r,f];exact eJ I
 ·simp only[aB,aD];refine⟨_,rfl,?_⟩;rw[strOfNums_data,hQ,hQ]
  conv=>lhs;rw[<-ik l]
  refine hT fun c hc=>?_;have:=u c hc;simp[j2];omega
theorem TW{c:Call}{x y:c6}{b aA n:Nat}{d:List AV}{l:List Nat}{T X:c9}(F:o.op= .call c)(hc:c.callee= .builtin .unsafeString)(N:c.args.toList=[x,y])(ac:c.argTypes=#[T,X])(hx:ρ x= .b6 b aA 1 0 [])(ae:ρ y= .p (.int .i64 n))
 (ai:0<n)(C:n<=d.length)(aj:n<=9223372036854775807)(M:P.underlying T=some (.pointer Gl.u8))(ad:P.cellsOf Gl.u8=1)(W:bytesOf (d.take n)=some l):
 bw P o ρ base {v:=.p (.str l),ak:=[(b,.arr .bytes aA 1 d)],aK:=[(b,.dead)]}:=by
 have s:c.args=#[x,y]:=by apply cb;simpa using N
 have D:x∈o.op.operands/\y∈o.op.operands:=by
  rw[F];simp[gt,fm,hc,s]
 intro H w aa ah β r G I ak _;have q:H[b]?=some (.arr .bytes aA 1 d):=by simpa using ak
 have e:=(I x D.1).1;have f:=(I y D.2).1;rw[hx]at e;rw[ae]at f;simp only[aB,bO,bU,aD]at e f;have i:¬df .bytes d:=fun h=>by rw[h.2]at C;simp at C;omega
 obtain⟨_,al,off,am,Y,E,e⟩:=e;simp[gn]at E;subst E;obtain⟨rfl,rfl⟩:=e _ _ q i;rcases G.cF b _ q with hold|⟨cs,af,ag,rest,k1,k2,k3,k4,k5,k6,k7,k8⟩
 ·exact(i hold).elim
 obtain rfl:=k8.2 rfl;have U:¬aa (β.al b)/\¬ah (β.al b):=by
  unfold cG at k7;rw[if_neg (by simp)]at k7;exact k7
 obtain⟨a,m,z,g1,g2,g3,g4,g5⟩:=jM k2 0 n (by omega);have O:a=[]:=by have:=(fT g4).1;simpa using this
 subst O;rw[h2]at g2;obtain⟨J,K,L⟩:=CE W g2;obtain⟨bs,u⟩:∃bs:List UInt8,bs=l.map j4:=⟨_,rfl⟩
 have g:bs.length=n:=by rw[u];simp[K];omega
 have t:bs.map (·.toNat)=l:=by
  rw[u,hQ]
  conv=>rhs;rw[<-ik l]
  refine hT fun c hc=>?_;have:=L c hc;simp[j2];omega
 have A:cs.toList=bs.map (fun c=>hm .u8 c.toNat)++(z.flatten++rest):=by
  rw[k3,g1];simp only[h0,hV,hG,J];congr 1;rw[<-t,hQ];rfl
 have ab:=Lib.run_unsafeString_row (P:=P) w T X o.type Gl.u8 M ad (β.al b) cs.size (by simp[World.shape?,k1]) bs (fun h=>by rw[h]at g;simp at g;omega) (by
  have:=congrArg hZ A;simp only[ce,ht,h9]at this;omega) (by omega) (fun j v B=>by
  have V:j<bs.length:=(hp.1 B).1;rw[kl];have:cs[j]?=some (.int .u8 v.toNat):=by
   rw[<-cc,A,h3 (by simpa using V),hX,B];rfl
  simp[ho,k1,this])
 have Q:(db r o).run P w=.ok (.value (.string ⟨bs.toArray⟩)) (w.freeze ⟨β.al b,0,none⟩ bs.length):=by
  simp only[db,F,resolve,hc,s];simp only[he,hg,hb,invoke,builtin,hM,hw,hP];have key:(en c.argTypes o.type #[r x,r y]).run P w=.ok (.string ⟨bs.toArray⟩) (w.freeze ⟨β.al b,0,none⟩ bs.length):=by
   rw[ac,Y,f,<-g];simpa using ab
  rw[key];rfl
 have S:∀k,k≠β.al b->(w.freeze ⟨β.al b,0,none⟩ bs.length).heap[k]?=w.heap[k]?:=by
  intro k hk;unfold hn
  split
  ·rfl
  ·simp[Array.getElem?_modify,Ne.symm hk]
 have R:(w.freeze ⟨β.al b,0,none⟩ bs.length).heap.size=w.heap.size:=by
  unfold hn
  split<;>simp
 have Z:=Xe G q i U (fun _ h=>by cases h) R S (Xl _ _ _);refine⟨_,_,_,β,aa,Q,.inl rfl,?_,?_,by simp[aE]⟩
 ·simpa only[newAt,hz,bd]using Z
 ·simp only[aB,aD];exact⟨_,rfl,by simpa using t.symm⟩
theorem TS{c:Call}{x y:c6}{T X:c9}(f:o.op= .call c)(hc:c.callee= .builtin .unsafeString)(i:c.args.toList=[x,y])(j:c.argTypes=#[T,X])(hx:ρ x= .p .dM)(k:ρ y= .p (.int .i64 0)):
 bw P o ρ base {v:=.p (.str [])}:=by
 have d:c.args=#[x,y]:=by apply cb;simpa using i
 have e:x∈o.op.operands/\y∈o.op.operands:=by
  rw[f];simp[gt,fm,hc,d]
 refine bw.same fun H w aa ah β h l g ak=>?_;have a:=(g x e.1).1;have b:=(g y e.2).1;rw[hx]at a;rw[k]at b;simp only[aB,aD]at a b;refine⟨.string .empty,?_,by simp only[aB,aD];exact⟨_,rfl,rfl⟩,by simp[aE]⟩;simp only[db,f,resolve,hc,d];simp only[he,hg,hb,invoke,builtin,hM,hw,hP];have key:(en c.argTypes o.type #[h x,h y]).run P w=.ok (.string .empty) w:=by
  rw[j,a,b];exact Lib.run_unsafeString_none w _ _ _ _
 rw[key];rfl
end
section
variable{P:dk}
theorem D0{c:Call}{ρ:c6->AV}{x:AV}(a:c.args.toList.map ρ=[x]):∃y,c.args.toList=[y]/\ρ y=x:=by
 match b:c.args.toList with
 |[]=>rw[b]at a;simp at a
 |[y]=>rw[b]at a;simp at a;exact⟨y,rfl,a⟩
 |_::_::_=>rw[b]at a;simp at a
theorem Kl{c:Call}(h:c.argTypes.size=2):∃T X,c.argTypes=#[T,X]:=by
 obtain⟨l,d⟩:∃l,l=c.argTypes.toList:=⟨_,rfl⟩
 have e:l.length=2:=by rw[d];simpa using h
 match l,e with
 |[a,b],_=>exact⟨a,b,by apply cb;simp[<-d]⟩
theorem o9(ag:dz->Bool):lW P ag:=by
 intro o ρ H K _ h;unfold fG at h;have plain:∀{e:aW},K e->bw P o ρ H.length e->e.ak=[]->e.aK=[]->∃e,K e/\bw P o ρ H.length e/\(∀p∈e.ak,H[p.1]?=some p.2)/\(∀p∈e.aK,p.1<H.length/\p.2≠.hole):=by
  intro e A B G I;exact⟨e,A,B,by simp[G],by simp[I]⟩
 cases q:o.op<;>simp only[q]at h
 case move x=>exact plain h (Rs (.inl q)) rfl rfl
 case assign x=>exact plain h (Rs (.inr q)) rfl rfl
 case pick c a b=>
  split at h
  ·rename_i t hc;exact plain h (aIX q hc) rfl rfl
  ·exact h.elim
 case alloc T=>
  split at h
  ·rename_i z N;exact plain h.2.2.2 (X3 q N h.2.2.1) rfl rfl
  ·exact h.elim
 case box T x=>exact plain h.2.2.2 (aIQ q h.2.1 h.2.2.1) rfl rfl
 case build T parts=>
  split at h
  ·rename_i u z hk N
   split at h
   ·rename_i l C;obtain⟨A,B,G⟩:=h;exact plain G (X2 q hk N C A B) rfl rfl
   ·exact h.elim
  ·exact h.elim
 case buildSlice T n parts=>
  split at h
  ·rename_i sz z V N;obtain⟨A,B,G,I⟩:=h;exact plain I (Ul q V N A B G) rfl rfl
  ·exact h.elim
 case load T a=>exact aIV q h
 case store T a x=>exact YE q h
 case binOp b T x y aG=>
  obtain⟨v,A,B⟩:=aIP (base:=H.length) q h;exact⟨_,A,B,nG,by simp⟩
 case unOp u T x=>
  split at h
  ·rename_i b hx;exact plain h (Fv q hx (.inl ⟨rfl,_,rfl,rfl⟩)) rfl rfl
  ·rename_i k n hx;exact plain h (Fv q hx (.inr (.inl ⟨rfl,_,_,rfl,rfl⟩))) rfl rfl
  ·rename_i k n hx;exact plain h (Fv q hx (.inr (.inr ⟨rfl,_,_,rfl,rfl⟩))) rfl rfl
  ·exact h.elim
 case convert S D x=>
  split at h
  ·rename_i d k k0 n ab aa hx;exact plain h (VM q ⟨_,ab⟩ aa hx) rfl rfl
  ·rename_i d s ab aa hx;exact plain h (VL q ⟨_,ab⟩ aa hx) rfl rfl
  ·rename_i e b aA ai off len ab aa hx
   split at h
   case h_2=>exact h.elim
   rename_i k aj af U w;obtain⟨rfl,rfl,rfl,V,al,hle,h⟩:=h
   split at h
   case h_2=>exact h.elim
   rename_i l C;exact⟨_,h,Uw q ab aa V hx al hle C,by simpa using w,by simp⟩
  ·exact h.elim
 case extract t i=>
  split at h
  ·rename_i vs ap
   split at h
   ·rename_i v aq;exact plain h (Kc q (.inr ⟨_,ap,rfl⟩) (by simp[aq])) rfl rfl
   ·exact h.elim
  ·rename_i vs ap
   split at h
   ·rename_i v aq;exact plain h (Kc q (.inl ap) aq) rfl rfl
   ·exact h.elim
  ·exact h.elim
 case fieldAddr T a f=>
  obtain⟨e,A,B,G,I⟩:=Uv (base:=H.length) q h;exact plain A B G I
 case indexAddr T x i=>
  obtain⟨e,A,B,G,I⟩:=Uu (base:=H.length) q h;exact⟨e,A,B,G,by simp[I]⟩
 case field T x f=>
  split at h
  ·rename_i u fs t hk az hx;obtain⟨A,h⟩:=h
   split at h
   ·rename_i g F ao am;exact plain h.2 (X0 q hk az hx A ao am h.1) rfl rfl
   ·exact h.elim
  ·exact h.elim
 case index T x i=>
  split at h
  ·rename_i s k n hx hi;obtain⟨A,B,G,I⟩:=h;exact plain I (Vr q hx hi A B G) rfl rfl
  ·rename_i u U k n hx hi
   split at h
   ·rename_i u' m F g J am ao;obtain⟨rfl,al,ac,hk,h⟩:=h;exact plain h (Vs q J hx hi al ac am ao hk) rfl rfl
   ·exact h.elim
  ·exact h.elim
 case makeFunc fn fi ca=>
  cases fn<;>simp only at h
  case func f=>
   obtain⟨m1,m2,m3⟩:=Vq (ρ:=ρ) (base:=H.length) q
   split at h
   ·split at h
    ·rename_i a b ak aK j an;obtain⟨q1,ad,aF⟩:=m3 H a b ak aK j an;exact⟨_,h,q1,ad,aF⟩
    ·exact h.elim
   ·split at h
    ·rename_i a b j an;exact plain h (m1 a b j an) rfl rfl
    ·exact plain h m2 rfl rfl
 case makeSlice T l c=>
  split at h
  ·rename_i sz z aH c' V N C hc;obtain⟨A,B,rfl,I,O⟩:=h;exact plain O (Ut q V N C hc A B I) rfl rfl
  ·exact h.elim
 case slice T x lo hi aB=>
  cases aB with
  |none=>
   obtain⟨e,A,B,G,I⟩:=XY (base:=H.length) q h;exact⟨e,A,B,G,by simp[I]⟩
  |some m=>
   obtain⟨e,A,B,G,I⟩:=WQ (base:=H.length) q h;exact⟨e,A,B,G,by simp[I]⟩
 case makeMap T r=>
  cases r<;>simp only at h;exact plain h (VK q) rfl rfl
 case lookup T x i ok=>
  split at h
  case h_2=>exact h.elim
  rename_i ae E key J hi
  split at h
  case h_2=>exact h.elim
  rename_i z N;obtain⟨hk,h⟩:=h
  split at h
  ·rename_i hx;exact plain h (vS (r:=none) (es:=[]) q J N hi hk rfl (.inl ⟨hx,rfl⟩)) rfl rfl
  ·rename_i U hx
   split at h
   ·rename_i v C;exact plain h (vS (r:=some v) q J N hi hk C (.inr (.inl hx))) rfl rfl
   ·rename_i C;exact plain h (vS (r:=none) q J N hi hk C (.inr (.inl hx))) rfl rfl
   ·exact h.elim
  ·rename_i b hx
   split at h
   case h_3=>exact h.elim
   ·rename_i fz U w
    split at h
    ·rename_i v C;exact⟨_,h,vS (r:=some v) q J N hi hk C (.inr (.inr ⟨b,fz,hx,by simp⟩)),by simpa using w,by simp⟩
    ·rename_i C;exact⟨_,h,vS (r:=none) q J N hi hk C (.inr (.inr ⟨b,fz,hx,by simp⟩)),by simpa using w,by simp⟩
    ·exact h.elim
   ·rename_i ks vs w;obtain⟨Q,h⟩:=h
    split at h
    ·rename_i v C;exact⟨_,h,He (r:=some v) q J N hi hk Q C hx,by simpa using w,by simp⟩
    ·rename_i C;exact⟨_,h,He (r:=none) q J N hi hk Q C hx,by simpa using w,by simp⟩
    ·exact h.elim
  ·exact h.elim
 case mapUpdate T m k x=>
  split at h
  case h_3=>exact h.elim
  ·rename_i ae E b key v J W hk hx;obtain⟨hf,h⟩:=h
   split at h
   case h_3=>exact h.elim
   ·rename_i U w
    split at h
    case h_2=>exact h.elim
    rename_i r C;exact⟨_,h,IZ (.inl q) J W hk hx hf C,by simpa using w,by simpa using(hp.1 w).1⟩
   ·rename_i ks vs w;obtain⟨ar,au,j,Q,C,h⟩:=x9 h;rw[<-hx]at h;exact⟨_,h,xZ (.inl q) J W hk hf j Q C,by simpa using w,by simpa using(hp.1 w).1⟩
  ·rename_i ae E b key J W hk _;obtain⟨hf,h⟩:=h
   split at h
   case h_2=>exact h.elim
   rename_i aE w;obtain⟨ar,au,j,Q,C,h⟩:=x9 h;exact⟨_,h,xZ (.inl q) J W hk hf j Q C,by simpa using w,by simpa using(hp.1 w).1⟩
 case insert T m k x=>
  split at h
  case h_3=>exact h.elim
  ·rename_i ae E b key v J W hk hx;obtain⟨hf,h⟩:=h
   split at h
   case h_3=>exact h.elim
   ·rename_i U w
    split at h
    case h_2=>exact h.elim
    rename_i r C;exact⟨_,h,IZ (.inr q) J W hk hx hf C,by simpa using w,by simpa using(hp.1 w).1⟩
   ·rename_i ks vs w;obtain⟨ar,au,j,Q,C,h⟩:=x9 h;rw[<-hx]at h;exact⟨_,h,xZ (.inr q) J W hk hf j Q C,by simpa using w,by simpa using(hp.1 w).1⟩
  ·rename_i ae E b key J W hk _;obtain⟨hf,h⟩:=h
   split at h
   case h_2=>exact h.elim
   rename_i aE w;obtain⟨ar,au,j,Q,C,h⟩:=x9 h;exact⟨_,h,xZ (.inr q) J W hk hf j Q C,by simpa using w,by simpa using(hp.1 w).1⟩
 case range T x=>
  split at h
  ·rename_i s hx;exact plain h.2 (XZ q hx h.1) rfl rfl
  ·exact h.elim
 case next it isStr=>
  cases isStr<;>simp only at h
  split at h
  case h_2=>exact h.elim
  rename_i b hx
  split at h
  case h_2=>exact h.elim
  rename_i s pos w;obtain⟨aC,aD⟩:=aIW (P:=P) (base:=H.length) (s:=s) (pos:=pos) q hx
  split at h
  ·rename_i Y;exact⟨_,h,aC Y,by simpa using w,by simpa using(hp.1 w).1⟩
  ·rename_i Y;exact⟨_,h,aD Y,by simpa using w,by simp⟩
 case nilCheck x=>
  split at h
  ·rename_i b p hx;exact plain h (B4 q (.inl ⟨b,p,hx⟩)) rfl rfl
  ·rename_i b v e i p hx;exact plain h (B4 q (.inr (.inl ⟨b,v,e,i,p,hx⟩))) rfl rfl
  ·rename_i t hx;exact plain h (B4 q (.inr (.inr ⟨t,hx⟩))) rfl rfl
  ·exact h.elim
 case call c=>
  split at h
  case h_2=>exact h.elim
  rename_i b hc
  split at h
  ·rename_i x j
   split at h
   case h_2=>exact h.elim
   rename_i n ak C;obtain⟨A,B,G⟩:=h;obtain⟨y,M,rfl⟩:∃y,c.args.toList=[y]/\ρ y=x:=by
    match L:c.args.toList with
    |[]=>rw[L]at j;simp at j
    |[y]=>rw[L]at j;simp at j;exact⟨y,rfl,j⟩
    |_::_::_=>rw[L]at j;simp at j
   obtain⟨q1,ad⟩:=aIU (P:=P) (base:=H.length) q hc M C A B;exact⟨_,G,q1,ad,by simp⟩
  ·rename_i s x j;obtain⟨y,z,M,rfl,rfl⟩:∃y z,c.args.toList=[y,z]/\ρ y=s/\ρ z=x:=by
    match L:c.args.toList with
    |[]=>rw[L]at j;simp at j
    |[y]=>rw[L]at j;simp at j
    |[y,z]=>rw[L]at j;simp at j;exact⟨y,z,rfl,j.1,j.2⟩
    |_::_::_::_=>rw[L]at j;simp at j
   exact WS q hc M h.1 h.2
  ·rename_i k a r j
   split at h
   ·rename_i n ac;exact plain h (Ku (isMax:=false) q hc j ac) rfl rfl
   ·exact h.elim
  ·rename_i k a r j
   split at h
   ·rename_i n ac;exact plain h (Ku (isMax:=true) q hc j ac) rfl rfl
   ·exact h.elim
  ·rename_i d x j;obtain⟨y,z,M,ax,rfl⟩:∃y z,c.args.toList=[y,z]/\ρ y=d/\ρ z=x:=by
    match L:c.args.toList with
    |[]=>rw[L]at j;simp at j
    |[y]=>rw[L]at j;simp at j
    |[y,z]=>rw[L]at j;simp at j;exact⟨y,z,rfl,j.1,j.2⟩
    |_::_::_::_=>rw[L]at j;simp at j
   split at h
   case h_2=>exact h.elim
   rename_i sz b aA ai off len aI V hx;obtain⟨rfl,A,B,h⟩:=h
   split at h
   case h_2=>exact h.elim
   rename_i k aj af U w;obtain⟨rfl,rfl,G,I,O,Z⟩:=h;refine⟨_,Z,aIS q hc M B V ax hx A G I O,?_,by simpa using(hp.1 w).1⟩;intro p Y;rcases hA.1 Y with rfl|Y
   ·exact w
   ·exact nG p Y
  ·rename_i x j;obtain⟨y,M,rfl⟩:=D0 j
   split at h
   case h_2=>exact h.elim
   rename_i n ak C;obtain⟨A,B,G⟩:=h;obtain⟨q1,ad⟩:=aIR (P:=P) (base:=H.length) q hc M C A B;exact⟨_,G,q1,ad,by simp⟩
  ·rename_i x j;obtain⟨y,M,R⟩:=D0 j
   split at h
   ·rw[<-R]at h;exact plain h.2.2 (Uk q hc M R h.1 h.2.1) rfl rfl
   ·split at h
    ·rename_i b aA ai off len sz z k aj af U V N w;obtain⟨rfl,rfl,rfl,A,B,G,I,O,Z,aw⟩:=h;exact⟨_,aw,X1 q hc M O V N A R B G I Z,by simpa using w,by simpa using(hp.1 w).1⟩
    ·exact h.elim
   ·exact h.elim
  ·rename_i x j;obtain⟨y,M,R⟩:=D0 j
   split at h
   ·exact plain h (B6 (H0:=H) q hc M (.inl ⟨R,rfl,rfl⟩)) rfl rfl
   ·split at h
    ·rename_i b aA ai off len k aj af U w;obtain⟨rfl,rfl,h⟩:=h;rcases h with⟨A,B,G⟩|⟨A,B,G⟩
     ·exact⟨_,G,B6 q hc M (.inr ⟨_,_,_,_,_,_,_,R,w,rfl,.inl ⟨⟨A,B⟩,rfl⟩⟩),by simpa using w,by simp⟩
     ·exact⟨_,G,B6 q hc M (.inr ⟨_,_,_,_,_,_,_,R,w,rfl,.inr ⟨A,B,rfl⟩⟩),by simpa using w,by simp⟩
    ·exact h.elim
   ·exact h.elim
  ·rename_i x n j;obtain⟨y,z,M,R,av⟩:∃y z,c.args.toList=[y,z]/\ρ y=x/\ρ z=.p (.int .i64 n):=by
    match L:c.args.toList with
    |[]=>rw[L]at j;simp at j
    |[y]=>rw[L]at j;simp at j
    |[y,z]=>rw[L]at j;simp at j;exact⟨y,z,rfl,j.1,j.2⟩
    |_::_::_::_=>rw[L]at j;simp at j
   split at h
   ·obtain⟨rfl,A,B⟩:=h;obtain⟨T,X,ah⟩:=Kl A;exact plain B (TS q hc M ah R av) rfl rfl
   ·split at h
    ·rename_i b aA ai i aj af U w;obtain⟨rfl,rfl,rfl,rfl,A,B,G,I,O,Z,h⟩:=h;obtain⟨T,X,ah⟩:=Kl I
     split at h
     ·rename_i l C;obtain⟨m,rfl⟩:=Int.eq_ofNat_of_zero_le (by omega:0<=n);simp only[Int.toNat_natCast]at B C;have J:P.underlying T=some (.pointer Gl.u8):=by
       rw[ah]at O;simp only[ptrTo]at O
       split at O
       ·rename_i e ay;simp at O;rw[<-O];exact ay
       ·simp at O
      exact⟨_,h,TW q hc M ah R av (by omega) B (by omega) J Z C,by simpa using w,by simpa using(hp.1 w).1⟩
     ·exact h.elim
    ·exact h.elim
   ·exact h.elim
  ·exact h.elim
end
section
variable{P:dk}{ag:dz->Bool}{n:Nat}
theorem Ld{o o':Obj}(h:mr o=some o'):mr o'=some o':=by
 unfold mr at h
 split at h
 ·simp at h;subst h;rfl
 ·rename_i k aA ai b
  split at h
  ·simp at h
  ·split at h
   ·rename_i l a;simp at h;subst h;simp[mr,AK.gr,a]
   ·simp at h
 ·simp at h;subst h;rfl
 ·simp at h
theorem arD{w:dg}{aa ah:Nat->Prop}{β:Bd}{H:Heap}(d:bS P w aa β H ah){b:Nat}{o o':Obj}(c:H[b]?=some o)(hf:mr o=some o'):
 ∃aF,bY P ah aa w β H aF w β (H.set b o')/\aF (β.al b):=by
 unfold mr at hf
 split at hf
 ·rename_i fz t;simp at hf;subst hf;obtain⟨cs,T,g,i,j,m⟩:=d.cF b _ c;have aH:cd β H β (H.set b (.box true (.p t))):=qJ c (.inl ⟨_,_,_,rfl,rfl⟩);exact qN d c trivial (o':=.box true (.p t)) trivial (fun _ h=>h) (fun _ h=>by cases h) aH j.rG
   (fun aF hi l=>⟨cs,T,g,br.mono hi (fun _ _=>rfl) aH _ _ (by simp[aE]) i,l,fun _=>trivial,m.2⟩) (by simp[Obj.refs,aE])
 ·rename_i k aA ai f
  split at hf
  ·simp at hf
  ·rename_i q
   split at hf
   case h_2=>simp at hf
   rename_i C z;simp at hf;subst hf;have r:=lC z;rcases d.cF b _ c with hold|⟨cs,T,u,rest,g,i,j,m,x,A,y,B⟩
   ·exact(q hold).elim
   have s:¬df .frozen f:=fun h=>by cases h.1
   have aH:cd β H β (H.set b (.arr .frozen aA ai f)):=qJ c (.inr (.inl ⟨_,_,_,_,_,rfl,rfl,q,s⟩));exact qN d c q (o':=.arr .frozen aA ai f) s (fun _ h=>h) (fun _ h=>by cases h) aH y.rG
    (fun aF hi l=>.inr ⟨cs,T,u,rest,g,bM.mono hi (fun _ _=>rfl) aH _ _ _ (d.refs b _ c) i,j,m,x,(fun h=>by cases h),l,fun _ e n=>(by rw[r]at n;simp at n;obtain⟨a,_,rfl⟩:=n;trivial),fun h=>by cases h⟩)
    (by rw[r];exact iW _ _)
 ·rename_i fz f;simp at hf;subst hf;obtain⟨v,clock,g,i,j⟩:=d.cF b _ c;have aH:cd β H β (H.set b (.map true f)):=qJ c (.inr (.inr ⟨_,_,_,rfl,rfl⟩));exact qN d c trivial (o':=.map true f) trivial (fun _ h=>h) (fun _ h=>by cases h) aH j.rG
   (fun aF hi l=>⟨v,clock,g,cH.mono hi (fun _ _=>rfl) _ _ i,l⟩) trivial
 ·simp at hf
theorem JF{w:dg}{ah:Nat->Prop}{β:Bd}{H0:Heap}:∀(bs:List Nat){ak aK:List (Nat×Obj)}{H:Heap}{aa:Nat->Prop},lD H0 bs=some (ak,aK)->bS P w aa β H ah->
 (∀p∈ak,∃c,H[p.1]?=some c/\mr c=mr p.2)->∃aF,bY P ah aa w β H aF w β (bd H aK)/\∀b∈bs,aF (β.al b)
 |[],ak,aK,H,aa,h,a,_=>by
  simp[lD]at h;obtain⟨rfl,rfl⟩:=h;exact⟨aa,bY.refl a,by simp⟩
 |b::bs,ak,aK,H,aa,h,a,hc=>by
  simp only[lD]at h
  split at h
  case h_2=>simp at h
  rename_i o q s r g
  split at h
  case h_2=>simp at h
  rename_i o' hf;simp at h;obtain⟨rfl,rfl⟩:=h;obtain⟨c,g1,g2⟩:=hc (b,o) (by simp);simp only at g1 g2;rw[hf]at g2;obtain⟨n,e,l⟩:=arD a g1 g2;have i:b<H.length:=(hp.1 g1).1;obtain⟨f,q1,m⟩:=JF bs g e.rel (by
   intro p j;obtain⟨k,k1,k2⟩:=hc p (by simp[j])
   by_cases d:b=p.1
   ·rw[<-d]at k1⊢;rw[g1]at k1;cases k1;refine⟨o',by rw[hr i],?_⟩;rw[<-k2,g2,Ld g2]
   ·exact⟨k,by rw[hC d];exact k1,k2⟩)
  refine⟨f,by simpa only[bd]using e.trans q1,?_⟩;intro x hx;rcases hA.1 hx with rfl|hx
  ·exact q1.bR _ l
  ·exact m x hx
theorem Le{H0:Heap}:∀(bs:List Nat){ak aK:List (Nat×Obj)},lD H0 bs=some (ak,aK)->(∀p∈ak,H0[p.1]?=some p.2)/\(∀p∈aK,p.1<H0.length/\p.2≠.hole)/\ak.map (·.1)=bs
 |[],ak,aK,h=>by
  simp[lD]at h;obtain⟨rfl,rfl⟩:=h;simp
 |b::bs,ak,aK,h=>by
  simp only[lD]at h
  split at h
  case h_2=>simp at h
  rename_i o f g d e
  split at h
  case h_2=>simp at h
  rename_i o' hf;simp at h;obtain⟨rfl,rfl⟩:=h;obtain⟨i1,i2,i3⟩:=Le bs e;refine⟨?_,?_,by simp[i3]⟩
  ·intro p a;rcases hA.1 a with rfl|a
   ·exact d
   ·exact i1 p a
  ·intro p a;rcases hA.1 a with rfl|a
   ·refine⟨(hp.1 d).1,fun c=>?_⟩;simp only at c;have:=Ld hf;rw[c]at this;simp[mr]at this
   ·exact i2 p a
theorem Ys{w:dg}{aa aF ah:Nat->Prop}{β:Bd}{H0 H:Heap}{a:AV}{pv:PV}{bs:List Nat}{v:da}(d:mz H0 a=some (pv,bs))(ak:∀b∈bs,H[b]?=H0[b]?)(n:bS P w aa β H ah)(e:aB P w aa β H a v)
 (hi:∀k,aa k->aF k)(r:∀b∈bs,aF (β.al b)):aD P w aF pv v:=by
 cases a with
 |p t=>
  simp[mz]at d;obtain⟨rfl,rfl⟩:=d;simp only[aB]at e;exact aD.mono hi (fun _ _=>rfl) _ _ e
 |sl b aA ai off len=>
  simp only[mz]at d
  split at d
  case h_2=>simp at d
  rename_i k S M g l
  split at d
  case isFalse=>simp at d
  rename_i F;obtain⟨rfl,rfl,R⟩:=F
  split at d
  ·simp at d
  ·rename_i y
   split at d
   case h_2=>simp at d
   rename_i z I;simp at d;obtain⟨rfl,rfl⟩:=d;have x:=lC I;have f:H[b]?=some (.arr k aA ai g):=by rw[ak b (by simp)];exact l
   have j:=r b (by simp);simp only[aB,bO,bU]at e;obtain⟨v1,v2,v3⟩:=e.2 k g f;rcases n.cF b _ f with hold|⟨cs,T,A,rest,i,h,q,D,N,E,O,Q⟩
   ·exact(y hold).elim
   rw[v3 y];have J:Row P w aF β H ai g A:=bM.mono hi (fun _ _=>rfl) (cd.refl _ _) _ _ _ (n.refs b _ f) h;obtain⟨a,m,c,e1,e2,e3,e4,e5⟩:=jM J off len v1;rw[x,BZ,l9]at e2;have u:((z.drop off).take len).length=len:=by
    have:g.length=z.length:=by rw[x];simp
    simp;omega
   simp only[aD];refine⟨β.al b,off*ai,β.cap b-off,ai,m,e2,fun _=>j,?_,?_,?_,none,.inl rfl,?_⟩
   ·rw[<-e3];exact lY i (post:=c.flatten++rest) (by rw[q,e1];simp)
   ·intro hf;simp at hf;rw[u,E hf.1];omega
   ·rw[u];omega
   ·rw[u]
 |ptr b path=>
  simp only[mz]at d
  split at d
  case h_2=>simp at d
  rename_i fz t l
  split at d
  case h_2=>simp at d
  rename_i s hs;simp at d;obtain⟨rfl,rfl⟩:=d;have f:H[b]?=some (.box fz (.p t)):=by rw[ak b (by simp)];exact l
  have j:=r b (by simp);simp only[aB,bO,bU]at e;obtain⟨_,L,K,o,rfl,G,e⟩:=e;obtain⟨rfl,rfl⟩:=e (.inl ⟨fz,_,f⟩);obtain⟨cs,T,i,h,q,D⟩:=n.cF b _ f;have C:aR P w aF t cs.toList:=by simp only[br]at h;exact aR.mono hi (fun _ _=>rfl) _ _ h
  obtain⟨pre,xs,post,e1,e2,e3⟩:=zh C hs G;simp only[aD];refine⟨β.al b,K,xs,e3,j,?_,rfl⟩;rw[<-e2];exact lY i e1
 |map b=>
  simp only[mz]at d
  split at d
  case h_2=>simp at d
  rename_i fz g l;simp at d;obtain⟨rfl,rfl⟩:=d;have f:H[b]?=some (.map fz g):=by rw[ak b (by simp)];exact l
  have j:=r b (by simp);simp only[aB,bO,bU]at e;have e:=e.2.1 ⟨_,f,trivial⟩;obtain⟨B,clock,i,h,q⟩:=n.cF b _ f;simp only[aD];exact⟨β.al b,B,clock,j,i,cH.mono hi (fun _ _=>rfl) _ _ h,e⟩
 |b6=>simp[mz]at d
 |func=>simp[mz]at d
 |st=>simp[mz]at d
 |aG=>simp[mz]at d
theorem KU{w:dg}{aa aF ah:Nat->Prop}{β:Bd}{H0 H:Heap}:∀{l:List AV}{vs:List PV}{bs:List Nat}{d:List da},oh H0 l=some (vs,bs)->(∀b∈bs,H[b]?=H0[b]?)->bS P w aa β H ah->bB P w aa β H l d->
 (∀k,aa k->aF k)->(∀b∈bs,aF (β.al b))->bt P w aF vs d
 |[],vs,bs,d,h,_,_,c,_,_=>by
  simp[oh]at h;obtain⟨rfl,rfl⟩:=h;simp only[bB]at c;simpa[bt]using c
 |a::l,vs,bs,d,h,ak,f,c,hi,e=>by
  simp only[oh]at h
  split at h
  case h_2=>simp at h
  rename_i v m o n g i;simp at h;obtain⟨rfl,rfl⟩:=h;simp only[bB]at c;obtain⟨y,j,rfl,k1,k2⟩:=c;simp only[bt];exact⟨y,j,rfl,Ys g (fun b hx=>ak b (by simp[hx])) f k1 hi (fun b hx=>e b (by simp[hx])),KU i (fun b hx=>ak b (by simp[hx])) f k2 hi (fun b hx=>e b (by simp[hx]))⟩
def Act(P:dk)(n:Nat)(o:Oper)(s:St)(e:aW):Prop:=
 ∀(fr:ei)(k:List Item)(cs:List ei)(a:Array Oper)(i:Nat)(r:List Nat)(b:List Deferred)(ah aa:Nat->Prop)(β:Bd)(s':St)(t:Array da)(w:dg),
  a[i]?=some o->g9 o (yielded a t)=true->jc n o=true->cS P n ah aa β s' t w->(∀x∈o.op.operands,ev s'.env x=ev s.env x)->
  (∀p∈e.ak,s'.heap[p.1]?=some p.2)->(∀j,j<e.aV.length->s'.heap[s.heap.length+j]?=some .hole)->
  ∃aF aJ c w',Steps P (lone (bD fr t b (.inRegion a (i::r)::k)) cs w) (lone (bD fr c b (.inRegion a r::k)) cs w')/\
   cS P n ah aF aJ ⟨put o.dst e.v s'.env,bd s'.heap (e.aK++newAt s.heap.length e.aV)⟩ c w'/\∀N,dS N ah aa w β s'.heap ah aF w' aJ (bd s'.heap (e.aK++newAt s.heap.length e.aV))
theorem U0{o:Oper}{K:aW->Prop}{s:St}(h:jq P ag o s K)(c:Call):o.op≠.defer c:=by
 intro hc;unfold jq at h;rw[hc]at h;simp[fG,hc]at h
theorem OZ{e e':Env}{l:List c6}(h:∀x∈l,ev e' x=ev e x):l.map (ev e')=l.map (ev e):=hT h
theorem Me{o:Oper}{f:c6}{H:Array c6}{aj:Array c9}{g:dz}{fi ca:List AV}{K:aW->Prop}{s:St}
 (W:o.op=.call {callee:=.value f,args:=H,argTypes:=aj})
 (hf:(ev s.env f=.func g fi ca)\/(∃a b,ev s.env f=.p (.func g a b)/\fi=a.map .p/\ca=b.map .p))
 (h:gZ P g (fi++H.toList.map (ev s.env)++ca) s.heap K):
 ∃e,K e/\(∀p∈e.ak,s.heap[p.1]?=some p.2)/\(∀p∈e.aK,p.1<s.heap.length/\p.2≠.hole)/\Act P n o s e:=by
 have Q:∀c,o.op≠.defer c:=fun c hc=>by rw[W]at hc;cases hc
 have ac:f∈o.op.operands/\∀x∈H.toList,x∈o.op.operands:=by
  rw[W];simp[gt,fm];exact fun x hx=>.inr hx
 have M:∀{ah aa:Nat->Prop}{β:Bd}{s':St}{t:Array da}{w:dg},cS P n ah aa β s' t w->(∀x∈o.op.operands,ev s'.env x=ev s.env x)->
  ∃m:List da,bB P w aa β s'.heap (fi++H.toList.map (ev s.env)++ca) m/\aS (aI s'.heap) (fi++H.toList.map (ev s.env)++ca)/\(db (fH t) o).run P w=(callFunc g m.toArray).run P w:=by
  intro ah aa β s' t w d A;have I:=n7 d f;rw[A f ac.1]at I;obtain⟨G,F,au,ar,ap,ay,ax⟩:∃G F:List da,fH t f=.func (.func g) G.toArray F.toArray/\bB P w aa β s'.heap fi G/\bB P w aa β s'.heap ca F/\aS (aI s'.heap) fi/\aS (aI s'.heap) ca:=by
   rcases hf with hf|⟨a,b,hf,rfl,rfl⟩
   ·rw[hf]at I;simp only[aB,aE]at I;obtain⟨⟨G,F,y,z,D⟩,S,an⟩:=I;exact⟨G,F,D,y,z,S,an⟩
   ·rw[hf]at I;simp only[aB,aD]at I;obtain⟨⟨G,F,y,z,D⟩,_⟩:=I;exact⟨G,F,D,jz.2 y,jz.2 z,iW _ _,iW _ _⟩
  obtain⟨Y,Z⟩:=vW d H.toList;rw[OZ (fun x hx=>A x (ac.2 x hx))]at Y Z;refine⟨G++H.toList.map (fH t)++F,pg (pg ar Y) ap,jL (jL ay Z) ax,?_⟩;simp only[db,W,resolve,au,Deferred.ofValue,he,hg,hb,invoke];congr 2;simp
 have pure:∀(fr:ei)(k:List Item)(cs:List ei)(l:Array Oper)(i:Nat)(r:List Nat)(u:List Deferred)(ah aa E:Nat->Prop)(β:Bd)(s':St)(t:Array da)(w:dg)(H1:Heap)(m:List da)(vs:List PV)(v:PV),
  l[i]?=some o->g9 o (yielded l t)=true->jc n o=true->cS P n ah aa β s' t w->(db (fH t) o).run P w=(callFunc g m.toArray).run P w->
  bY P ah aa w β s'.heap E w β H1->bt P w E vs m->aC P g vs v->
  ∃aF aJ ai w',Steps P (lone (bD fr t u (.inRegion l (i::r)::k)) cs w) (lone (bD fr ai u (.inRegion l r::k)) cs w')/\
   cS P n ah aF aJ ⟨put o.dst (.p v) s'.env,H1⟩ ai w'/\∀N,dS N ah aa w β s'.heap ah aF w' aJ H1:=by
  intro fr k cs l i r u ah aa E β s' t w H1 m vs v q C B d O j af L;rcases L with⟨aq,L⟩|L
  ·rw[aq]at O;obtain⟨e,w',al,⟨R,aF,U,g1,g2,g3,g4,g5,am,g6⟩,aH,av,V⟩:=L w E _ j.rel.bR j.rel.ia af (bD fr t u (.inRegion l (i::r)::k)::cs);subst U;have ae:=j.trans (j.rel.later g1 g2 g3 g4 g5 am);refine⟨aF,β,_,w',?_,d.put B ae (by simpa[aB]using g6) (by simp[aE]),fun _=>ae.fw⟩;rw[<-nI q];exact(Steps.one (vL q C Q O)).trans (Steps.trans aH (.one (eb V)))
  ·obtain⟨R,y,z⟩:=L w E _ af;rw[y]at O;exact⟨E,β,_,w,.one (tv q C Q O (.inl rfl)),d.put B j (by simpa[aB]using z) (by simp[aE]),fun _=>j.fw⟩
 rcases h with⟨vs,v,y,z,D⟩|⟨vs,bs,ak,aK,v,y,z,D,S⟩|⟨e,X,ad,T⟩|⟨ak,v,ao,aw,T⟩
 ·refine⟨_,D,by simp,by simp,?_⟩;intro fr k cs l i r u ah aa β s' t w q C B d A _ _;obtain⟨m,c1,c2,c3⟩:=M d A;rw[y]at c1;simp only[newAt,hz,bd];exact pure fr k cs l i r u ah aa aa β s' t w s'.heap m vs v q C B d c3 (bY.refl d.heap) (jz.1 c1) z
 ·obtain⟨i1,i2,i3⟩:=Le bs z;refine⟨_,S,i1,i2,?_⟩;intro fr k cs l i r u ah aa β s' t w q C B d A J _;obtain⟨m,c1,c2,c3⟩:=M d A;obtain⟨E,ag,az⟩:=JF bs z d.heap (fun p j=>⟨p.2,J p j,rfl⟩);simp only[newAt,hz];refine pure fr k cs l i r u ah aa E β s' t w _ m vs v q C B d c3 ag (KU y ?_ d.heap c1 ag.bR az) D;intro b ab;rw[<-i3]at ab;obtain⟨p,j,rfl⟩:=ii.1 ab;rw[J p j,i1 p j]
 ·refine⟨_,T,ad.1,ad.2,?_⟩;intro fr k cs l i r u ah aa β s' t w q C B d A J aV;obtain⟨m,c1,c2,c3⟩:=M d A;rw[X.1]at c3;obtain⟨x,w',al,⟨R,aJ,aF,U,g1,g2,g3⟩,aH,av,V⟩:=X.2 s'.heap w aa ah β _ d.heap c1 c2 J aV (bD fr t u (.inRegion l (i::r)::k)::cs);subst U;refine⟨aF,aJ,_,w',?_,d.put B g1 g2 g3,fun _=>g1.fw⟩;rw[<-nI q];exact(Steps.one (vL q C Q c3)).trans (Steps.trans aH (.one (eb V)))
 ·refine⟨_,T,aw,by simp,?_⟩;intro fr k cs l i r u ah aa β s' t w q C B d A J aV;obtain⟨m,c1,c2,c3⟩:=M d A;obtain⟨R,y,D⟩:=ao s'.heap w aa ah β _ d.heap c1 c2 J;rw[y]at c3;have j:=bY.refl d.heap;simp only[newAt,hz,bd];exact⟨aa,β,_,w,.one (tv q C Q c3 (.inl rfl)),d.put B j (by simpa[aB]using D) (by simp[aE]),fun _=>j.fw⟩
theorem Wz{o:Oper}{f:c6}{a:Array c6}{y:Array c9}{b:Nat}{e:aW}{s:St}
 (j:o.op=.call {callee:=.value f,args:=a,argTypes:=y})(hf:ev s.env f=.map b)(hY:uk P b (a.toList.map (ev s.env)) s.heap.length e):Act P n o s e:=by
 have G:∀c,o.op≠.defer c:=fun c hc=>by rw[j]at hc;cases hc
 have u:f∈o.op.operands/\∀x∈a.toList,x∈o.op.operands:=by
  rw[j];simp[gt,fm];exact fun x hx=>.inr hx
 intro fr k cs I i r z ah aa β s' t w v H C d m E aV;have h:=(n7 d f).1;rw[m f u.1,hf]at h;simp only[aB,bO,bU]at h;obtain⟨l,p⟩:=vW d a.toList;rw[OZ (fun x hx=>m x (u.2 x hx))]at l p;obtain⟨F,g,tmps,assign,body,A,B⟩:=hY s'.heap w aa ah β _ d.heap l p E aV;have D:=h.2.2 F;have q:(db (fH t) o).run P w=(Instr.yield (β.al b) (a.toList.map (fH t)).toArray).run P w:=by
  simp only[db,j,resolve,D,Deferred.ofValue,he,hg,hb,invoke];congr 2;exact cb (by simp)
 rw[A]at q;obtain⟨J,w',aJ,aF,g1,g2,g3,g4⟩:=B (bD fr t z (.inRegion I (i::r)::k)) cs;refine⟨aF,aJ,_,w',?_,d.put C g2 g3 g4,fun _=>g2.fw⟩;rw[<-nI v];exact(Steps.one (J5 v H G q)).trans g1
theorem Xu(m:lW P ag){o:Oper}{K:aW->Prop}{s:St}(h:jq P ag o s K):
 ∃e,K e/\(∀p∈e.ak,s.heap[p.1]?=some p.2)/\(∀p∈e.aK,p.1<s.heap.length/\p.2≠.hole)/\Act P n o s e:=by
 have E:=U0 h;have q:fG P ag o (ev s.env) s.heap K->∃e,K e/\(∀p∈e.ak,s.heap[p.1]?=some p.2)/\(∀p∈e.aK,p.1<s.heap.length/\p.2≠.hole)/\Act P n o s e:=by
  intro h;obtain⟨e,a,hs,ak,aK⟩:=m o _ _ _ (fun v=>rfl) h;refine⟨e,a,ak,aK,?_⟩;intro fr k cs L i r J ah aa β s' t w F G C d B D aV;obtain⟨nx,I,w',aJ,aF,u,y,j,z,A⟩:=hs s'.heap w aa ah β (fH t) d.heap (fun x hx=>by rw[<-B x hx];exact n7 d x) D aV;exact⟨aF,aJ,_,w',.one (tv F G E u y),d.put C j z A,fun _=>j.fw⟩
 unfold jq at h
 split at h
 ·rename_i f args H c
  split at h
  ·rename_i g fi ca hf;exact Me c (.inr ⟨fi,ca,hf,rfl,rfl⟩) h
  ·rename_i g fi ca hf;exact Me c (.inl hf) h
  ·rename_i b hf;obtain⟨e,hY,l,a⟩:=h;exact⟨e,a,l.1,l.2,Wz c hf hY⟩
  ·exact h.elim
 ·exact q h
end
section
variable{P:dk}{ag:dz->Bool}{n:Nat}
def looks(a:Array Oper)(o:Oper):List Tmp:=
 (o.op.operands.toList.filterMap fun x=>match x with
  | .tmp t=>some t
  |_=>none)++(match o.guard with
  |some (j,_)=>(match(a[j]?).bind (·.dst)with
   |some d=>[d]
   |none=>[])
  |none=>[])
def qR(c:Array Oper)(a b:Oper):Bool:=
 (match a.dst with
  |some d=>(looks c b).contains d||b.dst==some d
  |none=>false)||
 (match b.dst with
  |some d=>(looks c a).contains d
  |none=>false)
def fit(_:Nat)(a:Array Oper):Bool:=
 (ip a.size).all fun j=>match a[j]? with
  |some o=>o.after.toList.all (fun e=>!ha .any e||decide (e.on<j))&&
   (ip j).all (fun i=>match a[i]? with
    |some u=>!qR a u o||reach a a.size i j
    |none=>true)
  |none=>true
structure Ee(P:dk)(n:Nat)(ops:Array Oper)(o:Oper)(s:St)(e:aW):Prop where
 ak:∀p∈e.ak,s.heap[p.1]?=some p.2
 aK:∀p∈e.aK,p.1<s.heap.length
 act:(∀(t:Array da)(s':St)(ah aa:Nat->Prop)(β:Bd)(w:dg),cS P n ah aa β s' t w->(∀x∈looks ops o,aN s'.env x=aN s.env x)->g9 o (yielded ops t)=true)/\Act P n o s e\/
  (∀(t:Array da)(s':St)(ah aa:Nat->Prop)(β:Bd)(w:dg),cS P n ah aa β s' t w->(∀x∈looks ops o,aN s'.env x=aN s.env x)->g9 o (yielded ops t)=false)/\e={v:=.p (.aG [])}
inductive Tr(P:dk)(n:Nat)(ops:Array Oper):List Oper->Nat->St->List (St×aW)->St->Prop
 |nil (i:Nat) (s:St):Tr P n ops [] i s [] s
 |cons {o:Oper} {r:List Oper} {i:Nat} {s s':St} {e:aW} {es:List (St×aW)}:Ee P n ops o s e->Tr P n ops r (i+1) (e.app o.dst s) es s'->Tr P n ops (o::r) i s ((s,e)::es) s'
def pG(i:Nat):List (St×aW)->List Touch->List Touch
 |[],acc=>acc
 |(s,e)::r,acc=>pG (i+1) r (gT i s.heap.length e acc)
theorem BX{a:Array Oper}{o:Oper}{j:Nat}{f:Bool}(c:o.guard=some (j,f)){e e':Env}(h:∀x∈looks a o,aN e' x=aN e x):guardOf a j e'=guardOf a j e:=by
 unfold guardOf;cases b:(a[j]?).bind (·.dst)with
 |none=>rfl
 |some d=>
  simp only;exact h d (by simp[looks,c,b])
theorem LB(B:lW P ag){a:Array Oper}(q:∀o∈a.toList,jc n o=true):∀(l:List Oper)(i:Nat)(d:List Touch)(s:St){K:St->Prop},(∀o∈l,o∈a.toList)->gq P ag a l i d K s->
 ∃c s',Tr P n a l i s c s'/\K s'/\kg a (pG i c d)=true
 |[],i,d,s,K,_,h=>⟨[],s,.nil i s,h.2,h.1⟩
 |o::l,i,d,s,K,F,h=>by
  have C:=fun d s(h:gq P ag a l (i+1) d K s)=>LB B q l (i+1) d s (fun o G=>F o (by simp[G])) h
  have skip:gq P ag a l (i+1) d K ⟨put o.dst (.p (.aG [])) s.env,s.heap⟩->(∀(t:Array da)(s':St)(ah aa:Nat->Prop)(β:Bd)(w:dg),cS P n ah aa β s' t w->(∀x∈looks a o,aN s'.env x=aN s.env x)->g9 o (yielded a t)=false)->
   ∃c s',Tr P n a (o::l) i s c s'/\K s'/\kg a (pG i c d)=true:=by
   intro hk A;obtain⟨c,s',r,u,y⟩:=C _ _ hk;refine⟨(s,{v:=.p (.aG [])})::c,s',.cons ⟨by simp,by simp,.inr ⟨A,rfl⟩⟩ ?_,u,by simpa[pG,gT]using y⟩;simpa[aW.app,bd]using r
  have go:jq P ag o s (fun e=>gq P ag a l (i+1) (gT i s.heap.length e d) K (e.app o.dst s))->(∀(t:Array da)(s':St)(ah aa:Nat->Prop)(β:Bd)(w:dg),cS P n ah aa β s' t w->(∀x∈looks a o,aN s'.env x=aN s.env x)->g9 o (yielded a t)=true)->
   ∃c s',Tr P n a (o::l) i s c s'/\K s'/\kg a (pG i c d)=true:=by
   intro hk A;obtain⟨e,D,ak,aK,E⟩:=Xu (n:=n) B hk;obtain⟨c,s',r,u,y⟩:=C _ _ D;exact⟨(s,e)::c,s',.cons ⟨ak,fun p H=>(aK p H).1,.inl ⟨A,E⟩⟩ r,u,by simpa[pG]using y⟩
  simp only[gq]at h
  split at h
  ·rename_i f;exact go h (fun _ _ _ _ _ _ _ _=>by simp[g9,f])
  ·rename_i j I f
   split at h
   ·rename_i b m
    split at h
    ·rename_i z;refine go h (fun t s' ah aa β w k g=>?_);obtain⟨g1,g2⟩:=yJ k q j;rw[BX f g]at g1;simp[g9,f,g1 _ m,z]
    ·rename_i z;refine skip h (fun t s' ah aa β w k g=>?_);obtain⟨g1,g2⟩:=yJ k q j;rw[BX f g]at g1;simp[g9,f,g1 _ m,z]
   ·rename_i m;refine skip h (fun t s' ah aa β w k g=>?_);obtain⟨g1,g2⟩:=yJ k q j;rw[BX f g]at g2;simp[g9,f,g2 m]
   ·exact h.elim
def xb(a:Array Oper)(D:Nat->Prop):Prop:=∀j o,a[j]?=some o->D j->∀e∈o.after,ha .any e=true->D e.on
theorem Cb{c:Array Oper}{D:Nat->Prop}(hc:xb c D):∀(f i j:Nat),reach c f i j=true->(∀o,c[j]?=some o->∀e∈o.after,ha .any e=true->D e.on)->D i
 |0,_,_,h,_=>by simp[reach]at h
 |f+1,i,j,h,d=>by
  simp only[reach]at h
  split at h
  case h_2=>simp at h
  rename_i o g;simp only[cA,hK,cC,beq_iff_eq,decide_eq_true_eq]at h;rcases h with⟨e,b,a,rfl⟩|⟨e,b,⟨a,_⟩,k⟩
  ·exact d o g e (by simpa using b) a
  ·have m:=d o g e (by simpa using b) a;exact Cb hc f i e.on k (fun o' p e' n l=>hc _ o' p m e' n l)
end
section
variable{P:dk}{ag:dz->Bool}{n:Nat}
theorem tF(a:Nat)(l:List Obj):(newAt a l).map (·.1)=nZ a l:=by
 induction l generalizing a with
 |nil=>rfl
 |cons o l b=>simp[newAt,nZ,b]
theorem Je{a b:Nat}{l:List Obj}:b∈nZ a l↔a<=b/\b<a+l.length:=by
 induction l generalizing a with
 |nil=>simp[nZ]
 |cons o l c=>simp only[nZ,hA,c,List.length_cons];omega
theorem yT{l:List (Nat×Obj)}{b:Nat}(h:b∉l.map (·.1)):∀H:Heap,(bd H l)[b]?=H[b]?:=by
 induction l with
 |nil=>intro H;rfl
 |cons p l a=>
  obtain⟨c,o⟩:=p;intro H;simp only[hw,hA,not_or]at h;simp only[bd];rw[a h.2,hC (Ne.symm h.1)]
theorem V9{l:List (Nat×Obj)}{b:Nat}(h:b∈l.map (·.1)):∀H H':Heap,H.length=H'.length->(bd H l)[b]?=(bd H' l)[b]?:=by
 induction l with
 |nil=>simp at h
 |cons p l f=>
  obtain⟨c,o⟩:=p;intro H H' d;simp only[bd]
  by_cases a:b∈l.map (·.1)
  ·exact f a _ _ (by simp[d])
  ·rw[yT a,yT a];simp only[hw,hA]at h;have:b=c:=h.resolve_right a;subst this
   by_cases e:b<H.length
   ·rw[hr e,hr (by omega)]
   ·rw[hR (by simp;omega),hR (by simp;omega)]
def dh(es:List (St×aW))(s':St)(k:Nat):St:=match es[k]? with
 |some (s,_)=>s
 |none=>s'
def fI(es:List (St×aW))(k:Nat):aW:=match es[k]? with
 |some (_,e)=>e
 |none=>{v:=.p .undef}
theorem Tr.at{a:Array Oper}:∀{l:List Oper}{i:Nat}{s s':St}{es:List (St×aW)},Tr P n a l i s es s'->es.length=l.length/\dh es s' 0=s/\
 ∀k o,l[k]?=some o->Ee P n a o (dh es s' k) (fI es k)/\dh es s' (k+1)=(fI es k).app o.dst (dh es s' k)
 |_,_,_,_,_,.nil i s=>⟨rfl,rfl,fun k o h=>by simp at h⟩
 |_,_,_,_,_,.cons (o:=o) (r:=r) (i:=i) (s:=s) (s':=s') (e:=e) (es:=es) hi d=>by
  obtain⟨h1,b,c⟩:=d.at;refine⟨by simp[h1],rfl,fun k o' hk=>?_⟩;cases k with
  |zero=>
   simp at hk;subst hk;refine⟨by simpa[dh,fI]using hi,?_⟩;have:dh ((s,e)::es) s' (0+1)=dh es s' 0:=by simp[dh]
   rw[this,b];simp[dh,fI]
  |succ k=>
   have e1:∀m,dh ((s,e)::es) s' (m+1)=dh es s' m:=fun m=>by simp[dh]
   have e2:fI ((s,e)::es) (k+1)=fI es k:=by simp[fI]
   rw[e1,e1,e2];exact c k o' (by simpa using hk)
theorem Va(u:Touch)(i:Nat):jl u ⟨i,[],[]⟩=false:=by
 simp[jl]
theorem UP(i b:Nat)(e:aW)(a:List Touch):(gT i b e a=a/\ij i b e=⟨i,[],[]⟩)\/gT i b e a=ij i b e::a:=by
 unfold gT
 split
 ·rename_i c d f;exact .inl ⟨rfl,by simp[ij,c,d,f,nZ]⟩
 ·exact .inr rfl
theorem J4{c:Array Oper}:∀(g:List (St×aW))(i:Nat)(d:List Touch),kg c (pG i g d)=true->kg c d=true/\
 (∀u∈d,∀b s e,g[b]?=some (s,e)->jl u (ij (i+b) s.heap.length e)=true->reach c c.size u.i (i+b)=true)/\
 (∀a b s e f e2,a<b->g[a]?=some (s,e)->g[b]?=some (f,e2)->jl (ij (i+a) s.heap.length e) (ij (i+b) f.heap.length e2)=true->reach c c.size (i+a) (i+b)=true)
 |[],i,d,h=>⟨h,by simp,by simp⟩
 |(s,e)::g,i,d,h=>by
  simp only[pG]at h;obtain⟨j,m,r⟩:=J4 g (i+1) _ h
  have key:kg c d=true/\(∀u∈d,jl u (ij i s.heap.length e)=true->reach c c.size u.i i=true)/\(∀u∈d,∀b s e,g[b]?=some (s,e)->jl u (ij (i+1+b) s.heap.length e)=true->reach c c.size u.i (i+1+b)=true)/\
   (∀b f e2,g[b]?=some (f,e2)->jl (ij i s.heap.length e) (ij (i+1+b) f.heap.length e2)=true->reach c c.size i (i+1+b)=true):=by
   rcases UP i s.heap.length e d with⟨o,q⟩|o
   ·rw[o]at j m;refine⟨j,fun u _ hc=>?_,m,fun b f e2 _ hc=>?_⟩
    ·rw[q,Va]at hc;cases hc
    ·rw[q]at hc;simp[jl]at hc
   ·rw[o]at j m;simp only[kg,cC,h7]at j;refine⟨j.2,fun u l hc=>?_,fun u l=>m u (by simp[l]),m _ (by simp)⟩;have:=j.1 u l;rw[hc]at this;exact(by simpa using this:reach c c.size u.i (ij i s.heap.length e).i=true)
  obtain⟨k1,k2,k3,k4⟩:=key;refine⟨k1,?_,?_⟩
  ·intro u l b p e1 k hc;cases b with
   |zero=>simp at k;obtain⟨rfl,rfl⟩:=k;exact k2 u l hc
   |succ b=>
    have:=k3 u l b p e1 (by simpa using k);rw[show i+(b+1)=i+1+b by omega]at hc⊢;exact this hc
  ·intro a b p e1 f e2 t n k hc;cases b with
   |zero=>omega
   |succ b=>
    rw[show i+(b+1)=i+1+b by omega]at hc⊢;cases a with
    |zero=>
     simp at n;obtain⟨rfl,rfl⟩:=n;exact k4 b f e2 (by simpa using k) hc
    |succ a=>
     rw[show i+(a+1)=i+1+a by omega]at hc⊢;exact r a b p e1 f e2 (by omega) (by simpa using n) (by simpa using k) hc
end
section
variable{P:dk}{ag:dz->Bool}{n:Nat}
def hx(N:Nat)(s:St):Heap:=s.heap++hv (N-s.heap.length) .hole
def uZ(a:Nat)(e:aW):List Nat:=(e.aK++newAt a e.aV).map (·.1)
theorem awy{N:Nat}{s:St}{e:aW}{o:Oper}(aK:∀p∈e.aK,p.1<s.heap.length)(d:(e.app o.dst s).heap.length<=N):hx N (e.app o.dst s)=bd (hx N s) (e.aK++newAt s.heap.length e.aV):=by
 have b:(e.app o.dst s).heap=bd s.heap e.aK++e.aV:=rfl;have f:(e.app o.dst s).heap.length=s.heap.length+e.aV.length:=by rw[b];simp[o8]
 unfold hx;rw[b];have c:N-s.heap.length=e.aV.length+(N-(s.heap.length+e.aV.length)):=by omega
 rw[c,<-List.replicate_append_replicate,<-hG,yx _ _ _ (by
  intro p a;rcases h8.1 a with a|a
  ·have:=aK p a;simp;omega
  ·have:p.1∈(newAt s.heap.length e.aV).map (·.1):=List.mem_map_of_mem a
   rw[tF,Je]at this;simp;omega)]
 rw[BU,yx _ _ _ aK];have:=Ca (bd s.heap e.aK) e.aV;rw[o8]at this;rw[this];congr 2;simp[o8]
section sched
variable{ops:Array Oper}{es:List (St×aW)}{s0 s':St}
structure jd(P:dk)(n:Nat)(ops:Array Oper)(es:List (St×aW))(s':St):Prop where
 len:es.length=ops.size
 at_:∀k o,ops[k]?=some o->Ee P n ops o (dh es s' k) (fI es k)/\dh es s' (k+1)=(fI es k).app o.dst (dh es s' k)
 dst:∀o∈ops.toList,jc n o=true
 lower:∀j o,ops[j]?=some o->∀e∈o.after,ha .any e=true->e.on<j
 tmps:∀i j u o,i<j->ops[i]?=some u->ops[j]?=some o->qR ops u o=true->reach ops ops.size i j=true
 heap:∀i j,i<j->j<ops.size->jl (ij i (dh es s' i).heap.length (fI es i)) (ij j (dh es s' j).heap.length (fI es j))=true->reach ops ops.size i j=true
def wr(a:List (St×aW))(s':St)(i:Nat):List Nat:=uZ (dh a s' i).heap.length (fI a i)
structure At(ops:Array Oper)(es:List (St×aW))(s':St)(D:Nat->Prop)(s:St):Prop where
 tmp:∀x,∃k,k<=ops.size/\aN s.env x=aN (dh es s' k).env x/\∀i o,ops[i]?=some o->o.dst=some x->(D i↔i<k)
 len:s.heap.length=s'.heap.length
 heap:∀b,∃k,k<=ops.size/\s.heap[b]?=(hx s'.heap.length (dh es s' k))[b]?/\∀i,i<ops.size->b∈wr es s' i->(D i↔i<k)
variable(h:jd P n ops es s')
include h
theorem jd.mono:∀{k m:Nat},k<=m->m<=ops.size->(dh es s' k).heap.length<=(dh es s' m).heap.length:=by
 intro k m e f
 induction m with
 |zero=>
  obtain rfl:k=0:=by omega
  exact ix _
 |succ m c=>
  by_cases hk:k=m+1
  ·subst hk;exact ix _
  ·have d:=c (by omega) (by omega);have b:ops[m]?=some ops[m]:=ck (by omega);obtain⟨_,a⟩:=h.at_ m _ b;rw[a];simp only[aW.app,ht,o8];omega
theorem jd.last:dh es s' ops.size=s':=by
 have:es[ops.size]?=none:=hR (by rw[h.len];exact ix _);simp[dh,this]
theorem jd.xD{k:Nat}(hk:k<=ops.size):(dh es s' k).heap.length<=s'.heap.length:=by
 have:=h.mono hk (ix _)
 rwa [h.last]at this
theorem jd.gX{k:Nat}(hk:k<ops.size):hx s'.heap.length (dh es s' (k+1))=bd (hx s'.heap.length (dh es s' k)) ((fI es k).aK++newAt (dh es s' k).heap.length (fI es k).aV):=by
 have c:ops[k]?=some ops[k]:=ck hk;obtain⟨h1,b⟩:=h.at_ k _ c;have a:=h.xD (k:=k+1) hk;rw[b]at a⊢;exact awy h1.aK a
theorem aww{k:Nat}(hk:k<=ops.size):(hx s'.heap.length (dh es s' k)).length=s'.heap.length:=by
 have:=h.xD hk;simp[hx];omega
theorem jd.LC{x:Nat}:∀{k m:Nat},k<=m->m<=ops.size->(∀i o,k<=i->i<m->ops[i]?=some o->o.dst≠some x)->aN (dh es s' m).env x=aN (dh es s' k).env x:=by
 intro k m j
 induction m with
 |zero=>
  intro _ _;obtain rfl:k=0:=by omega
  rfl
 |succ m g=>
  intro l d
  by_cases hk:k=m+1
  ·subst hk;rfl
  ·have e:=g (by omega) (by omega) (fun i o a b=>d i o a (by omega));have c:ops[m]?=some ops[m]:=ck (by omega);obtain⟨_,f⟩:=h.at_ m _ c;rw[f];simp only[aW.app,vU];rw[if_neg (d m _ (by omega) (by omega) c)];exact e
theorem jd.K9{b:Nat}:∀{k m:Nat},k<=m->m<=ops.size->(∀i,k<=i->i<m->b∉wr es s' i)->(hx s'.heap.length (dh es s' m))[b]?=(hx s'.heap.length (dh es s' k))[b]?:=by
 intro k m f
 induction m with
 |zero=>
  intro _ _;obtain rfl:k=0:=by omega
  rfl
 |succ m e=>
  intro g c
  by_cases hk:k=m+1
  ·subst hk;rfl
  ·have d:=e (by omega) (by omega) (fun i a b=>c i a (by omega));rw[h.gX (by omega),yT (c m (by omega) (by omega))];exact d
theorem jd.MU{x:Nat}{k m:Nat}(hk:k<=ops.size)(g:m<=ops.size)(f:∀i o,ops[i]?=some o->o.dst=some x->(i<k↔i<m)):aN (dh es s' m).env x=aN (dh es s' k).env x:=by
 rcases jp k m with d|d
 ·exact h.LC d g fun i o a b e c=>by have:=f i o e c;omega
 ·exact(h.LC d hk fun i o a b e c=>by have:=f i o e c;omega).symm
theorem jd.MD{b:Nat}{k m:Nat}(hk:k<=ops.size)(g:m<=ops.size)(f:∀i,i<ops.size->b∈wr es s' i->(i<k↔i<m)):(hx s'.heap.length (dh es s' m))[b]?=(hx s'.heap.length (dh es s' k))[b]?:=by
 rcases jp k m with e|e
 ·exact h.K9 e g fun i a c d=>by have:=f i (by omega) d;omega
 ·exact(h.K9 e hk fun i a c d=>by have:=f i (by omega) d;omega).symm
variable{D:Nat->Prop}(hc:xb ops D)
include hc
theorem jd.order{i:Nat}{o:Oper}(k:ops[i]?=some o)(h:¬D i)(l:∀e∈o.after,ha .any e=true->D e.on):
 (∀j,j<i->reach ops ops.size j i=true->D j)/\(∀j,j<ops.size->i<j->reach ops ops.size i j=true->¬D j):=by
 constructor
 ·intro j g b;exact Cb hc _ _ _ b (fun o' a=>by rw[k]at a;cases a;exact l)
 ·intro j m g b d;exact h (Cb hc _ _ _ b (fun o' a e f c=>hc j o' a d e f c))
theorem jd.reads{i:Nat}{o:Oper}(l:ops[i]?=some o)(q:¬D i)(y:∀e∈o.after,ha .any e=true->D e.on){s:St}(t:At ops es s' D s):
 (∀x∈looks ops o,aN s.env x=aN (dh es s' i).env x)/\(∀b,b∈(fI es i).ak.map (·.1)\/b∈wr es s' i->s.heap[b]?=(hx s'.heap.length (dh es s' i))[b]?):=by
 obtain⟨v,w⟩:=h.order hc l q y;have hi:i<ops.size:=(b5.1 l).1;constructor
 ·intro x hx;obtain⟨k,k1,k2,k3⟩:=t.tmp x;rw[k2];refine h.MU (by omega) k1 fun j u m p=>?_;have g:j<ops.size:=(b5.1 m).1;rw[<-k3 j u m p];constructor
  ·intro a;refine v j a (h.tmps j i u o a m l ?_);simp[qR,p,hx]
  ·intro f;rcases iL j i with a|rfl|a
   ·exact a
   ·exact(q f).elim
   ·exact(w j g a (h.tmps i j o u a l m (by simp[qR,p,hx])) f).elim
 ·intro b c;obtain⟨k,k1,k2,k3⟩:=t.heap b;rw[k2];refine h.MD (by omega) k1 fun j g n=>?_;rw[<-k3 j g n];have r:b∈(ij j (dh es s' j).heap.length (fI es j)).wr:=by
   unfold wr uZ at n;rw[hE,tF]at n;exact n
  have d:b∈(ij i (dh es s' i).heap.length (fI es i)).rd\/b∈(ij i (dh es s' i).heap.length (fI es i)).wr:=by
   rcases c with c|c
   ·exact .inl c
   ·unfold wr uZ at c;rw[hE,tF]at c;exact .inr c
  constructor
  ·intro a;refine v j a (h.heap j i a hi ?_);simp only[jl,cA,hK,hH];exact .inl ⟨b,r,d⟩
  ·intro f;rcases iL j i with a|rfl|a
   ·exact a
   ·exact(q f).elim
   ·refine(w j g a (h.heap i j a g ?_) f).elim;simp only[jl,cA,hK,hH];rcases d with d|d
    ·exact .inr ⟨b,d,r⟩
    ·exact .inl ⟨b,d,.inr r⟩
theorem jd.next{i:Nat}{o:Oper}(l:ops[i]?=some o)(z:¬D i)(A:∀e∈o.after,ha .any e=true->D e.on){s:St}(p:At ops es s' D s):
 At ops es s' (fun j=>D j\/j=i) ⟨put o.dst (fI es i).v s.env,bd s.heap ((fI es i).aK++newAt (dh es s' i).heap.length (fI es i).aV)⟩:=by
 obtain⟨w,y⟩:=h.order hc l z A;have hi:i<ops.size:=(b5.1 l).1;obtain⟨B,gX⟩:=h.at_ i o l;refine⟨fun x=>?_,by simp only[o8];exact p.len,fun b=>?_⟩
 ·by_cases hx:o.dst=some x
  ·refine⟨i+1,hi,?_,fun j u d n=>?_⟩
   ·rw[gX];simp[aW.app,vU,hx]
   ·have g:j<ops.size:=(b5.1 d).1;constructor
    ·rintro(c|rfl)
     ·rcases iL j i with a|rfl|a
      ·omega
      ·omega
      ·exact(y j g a (h.tmps i j o u a l d (by simp[qR,n,hx])) c).elim
     ·omega
    ·intro a
     by_cases q:j=i
     ·exact .inr q
     ·exact .inl (w j (by omega) (h.tmps j i u o (by omega) d l (by simp[qR,n,hx])))
  ·obtain⟨k,k1,k2,k3⟩:=p.tmp x;refine⟨k,k1,?_,fun j u d n=>?_⟩
   ·simp only[vU];rw[if_neg hx];exact k2
   ·rw[<-k3 j u d n];constructor
    ·rintro(c|rfl)
     ·exact c
     ·rw[l]at d;cases d;exact(hx n).elim
    ·exact .inl
 ·by_cases f:b∈wr es s' i
  ·refine⟨i+1,hi,?_,fun j g m=>?_⟩
   ·rw[h.gX hi];exact V9 f _ _ (by rw[aww h (by omega)];exact p.len)
   ·have t:b∈(ij j (dh es s' j).heap.length (fI es j)).wr:=by
     unfold wr uZ at m;rw[hE,tF]at m;exact m
    have r:b∈(ij i (dh es s' i).heap.length (fI es i)).wr:=by
     unfold wr uZ at f;rw[hE,tF]at f;exact f
    constructor
    ·rintro(c|rfl)
     ·rcases iL j i with a|rfl|a
      ·omega
      ·omega
      ·refine(y j g a (h.heap i j a g ?_) c).elim;simp only[jl,cA,hK,hH];exact .inl ⟨b,r,.inr t⟩
     ·omega
    ·intro a
     by_cases q:j=i
     ·exact .inr q
     ·refine .inl (w j (by omega) (h.heap j i (by omega) hi ?_));simp only[jl,cA,hK,hH];exact .inl ⟨b,t,.inr r⟩
  ·obtain⟨k,k1,k2,k3⟩:=p.heap b;refine⟨k,k1,?_,fun j g m=>?_⟩
   ·simp only;rw[yT f];exact k2
   ·rw[<-k3 j g m];constructor
    ·rintro(c|rfl)
     ·exact c
     ·exact(f m).elim
    ·exact .inl
end sched
end
end Go.au
