import Derived.Test.YtgpphcmkjhklgaaGreatDoorThB
import Derived.Laws.StructEq
import Derived.Laws.Concat
import Derived.ChangeKeysEq
import Derived.MapKept
import Derived.Laws.RangeString
import Derived.Lib.UnsafeStr
import Derived.Laws.BytesArg
import Derived.Orders
/- Parts of a proof. -/
set_option linter.unusedSimpArgs false
set_option linter.unusedVariables false
set_option linter.unusedSectionVars false
open Array renaming getElem?_eq_some_iff->cb, ext'->cc, getElem?_toList->ce, length_toList->ck, getElem?_eq_getElem->cv, toList_push->cx, getElem?_push->cy, getD->c6
open Bool renaming or_eq_true->c9, false_eq_true->da, and_eq_true->db
open Go renaming run_underlying->dg, Operand->dk, TypeId->dl, Value->dp, execOp->dq, World->dz, Program->ea, MapEntry->eb, setRow_other->ec, setRow_heap->ed, FuncId->ee, Field->ei, step_leave_returned->ej, run_storeCells_at->em, TypeDesc->en, IntKind->eo, Frame->eq
open Go.Builtin renaming firstCells->ew, clear_->e6, unsafeString_->e7, zeroCells->e8, copy_->e9, min2->fb, max2->fd, unsafeSliceData_->fl, min_->fm, max_->fv, lenOf->fH, cap_->gb
open Go.ByteArray renaming toList_eq->gc
open Go.Call renaming operands->ge
open Go.Instr renaming findNow->gg, findAsking->gi, checkKey->gj, findKey->gm, mapUpdate->gt, lookup->gx, sameNow->gy, next->g0
open Go.MapKept renaming run_getObj_map->g7, bytes_beq->g8
open Go.Op renaming operands->g9, equalIn->ha, equal->hb, bytesLess->hd, eqFields->he, eqItems->hg, stringOp->hh
open Go.Region renaming wanted->hj, binds->hl
open Go.Result renaming andThen_ok->hm, andThen->hn
open Go.Sem renaming run_bind->ho, run_pure->hp, run->hr
open Go.Utf8 renaming decode->ht
open Go.Value renaming oneCell'->hv, int->hw
open Go.World renaming freeze->hz, cell?->hA
open List renaming getElem?_eq_some_iff->hB, getElem?_set_self->hC, length_append->hD, replicate->hE, map_cons->hF, append_nil->hG, mem_cons->hH, mem_cons_of_mem->hJ, getElem?_set_ne->hK, mem_of_mem_take->hL, map_append->hM, size_toArray->hN, append_assoc->hO, contains_iff_mem->hP, any_eq_true->hQ, mem_of_mem_drop->hR, map_toArray->hS, length_eq_zero_iff->hT, take_of_length_le->hU, map_nil->hV, map_map->hW, getElem?_eq_none->hX, replicate_succ->hZ, map_congr_left->h0, length_pos_iff->h2, flatten_append->h3, mem_singleton->h4, getElem?_map->h5, length->h6, nil_append->h7, drop_zero->h8, getElem?_append_left->h9, getElem?_eq_getElem->ih, map->ii, take_succ_cons->ik, all_eq_true->ip, mem_append->ix, length_map->iz, sum_cons->i0, mem_map->i4, map_id->i5, range->i6
open Nat renaming le_refl->i7, lt_irrefl->i8, lt_trichotomy->i9, add_zero->jp, le_add_right->js, zero_add->j1, add_mul->j2, zero_mul->j3, succ_mul->j4, ne_of_lt->j5, le_total->j6
open Option renaming isSome_iff_exists->j7
open PUnit renaming unit->j8
open UInt8 renaming toNat_ofNat'->j9, toNat_inj->kb, ofNat->kc
namespace Go.aw
set_option linter.unusedSectionVars false
variable[Gl]
section
variable{P:ea}{w:dz}{aa ah:Nat->Prop}{β:Bd}{H:Heap}
variable{o:Oper}{ρ:dk->AV}{base:Nat}
theorem wo{c:Call}{s x:dk}(D:o.op= .call c)(hc:c.callee= .builtin .append)(y:c.args.toList=[s,x]){T X e:dl}(I:c.argTypes=#[T,X]){i:TypeInfo}{j:dp}{sz:Nat}(u:pF P T sz e i)(v:ie P X=true)
 (L:i.zero=some j)(M:j.cells.size=sz)(F:bL P w aa β H ah){g:dk->dp}{p:Option Addr}{b f:Nat}{olds a:List AV}{ocss:List (List dp)}(hs:g s=.slice p b f)(m:olds.length=b)(l:Row P w aa β H sz olds ocss)(E:aQ (aG H) olds)
 (C:(ew sz b (.slice p b f)).run P w.drew=.ok ocss.flatten.toArray w.drew)
 (hx:gv H (ρ x)=some a)(K:au P w aa β H (ρ x) (g x))(J:aC (aG H) (ρ x))(G:eC P sz a)(A:f<b+a.length)(B:b+a.length<=cM):
 ∃cap cells d N,(dq g o).run P w=.ok (.value (.slice (some ⟨w.heap.size,0,none⟩) (b+a.length) cap)) {w.drew with heap:=w.heap.push (.cells cells e)}/\
  Row P w aa β H sz (olds++a) d/\aQ (aG H) (olds++a)/\cells.toList=d.flatten++N/\cells.size=cap*sz/\(olds++a).length<=cap:=by
 obtain⟨d,h,q,r,t⟩:=uD hx F K J G;have k:=t w.drew rfl a.length (i7 _);have O:d.length=a.length:=(fw h).1;rw[hU (by omega)]at k;obtain⟨cap,z,n⟩:=Tt u v L o.type (sLen:=b) (sCap:=f) (p:=p) (g x) r C k A B;rw[<-I,<-hs]at n;refine⟨cap,_,ocss++d,(e8 j.cells (cap-(b+a.length))).toList,wG D hc y n,kq.2 ⟨_,_,rfl,l,h⟩,ji E q,by simp,?_,by simpa[m]using z⟩;have e1:=(fw l).2;have e2:=(fw h).2;simp only[Array.size_append,hN,GB,M,e1,e2,m,<-j2];congr 1;omega
theorem sQ{T:dl}:gk P T≠.frozen/\gk P T≠.exact:=by
 unfold gk;split<;>simp
theorem CS{T e:dl}(h:dR P T=e)(hk:gk P T=.bytes):e=Gl.u8:=by
 unfold gk at hk
 split at hk
 ·rename_i a;rw[<-h];exact a
 ·cases hk
theorem AU{_o':Obj}{k:AK}{a:List AV}{b:List (List dp)}{r:List dp}{cells:Array dp}{e:dl}{cap sz:Nat}(j:bL P w aa β H ah)(c:H[base]?=some .hole)
 (g:k≠.frozen)(i:¬cU k a)(m:Row P w aa β H sz a b)(d:aQ (aG H) a)(hc:cells.toList=b.flatten++r)(o:cells.size=cap*sz)(h:a.length<=cap)(f:k=.exact->cap=a.length)(p:k=.bytes->e=Gl.u8):
 bO P ah aa w β H aa {w.drew with heap:=w.heap.push (.cells cells e)} (β.at base w.heap.size cap) (ba H ([]++newAt base [.arr k 0 sz a]))/\
 au P {w.drew with heap:=w.heap.push (.cells cells e)} aa (β.at base w.heap.size cap) (ba H ([]++newAt base [.arr k 0 sz a])) (.sl base 0 sz 0 a.length) (.slice (some ⟨w.heap.size,0,none⟩) a.length cap)/\
 aC (aG (ba H ([]++newAt base [.arr k 0 sz a]))) (.sl base 0 sz 0 a.length):=by
 have l:bL P w.drew aa β H ah:=bL.uo (w:=w) (w':=w.drew) rfl j;have n:Row P w.drew aa β H sz a b:=Row.mono (w:=w) (w':=w.drew) (fun _ x=>x) (fun _ _=>rfl) (bX.refl _ _) d m;obtain⟨q1,q⟩:=wX (T:=e) (k:=k) l c g i n d hc o h f p;rw[ld];exact⟨bO.drew (w1:=w.drew) rfl ⟨rfl,rfl⟩ q1,q,⟨_,hC (hB.1 c).1,i7 _⟩⟩
theorem I5{b:Nat}{k k':AK}{ar ai:Nat}{i es':List AV}{ak cap:Nat}(f:H[b]?=some (.arr k ar ai i)):bX β H (β.at b ak cap) (H.set b (.arr k' (ar+1) ai es')):=by
 have j:b<H.length:=(hB.1 f).1;have c:∀x,x≠b->(H.set b (.arr k' (ar+1) ai es'))[x]?=H[x]?:=fun x hx=>hK (Ne.symm hx);have a:(H.set b (.arr k' (ar+1) ai es'))[b]?=some (.arr k' (ar+1) ai es'):=hC j;refine⟨?_,?_,?_,?_,?_⟩
 ·rintro x _ ⟨fz,t,h⟩
  by_cases hx:x=b
  ·subst hx;rw[a]at h;cases h
  ·rw[c x hx]at h;exact⟨⟨fz,t,h⟩,by simp[Bd.at,hx]⟩
 ·rintro x _ ⟨fz,t,h⟩
  by_cases hx:x=b
  ·subst hx;rw[a]at h;cases h
  ·rw[c x hx]at h;exact⟨⟨fz,t,h⟩,by simp[Bd.at,hx]⟩
 ·rintro x _ ⟨n,h,e⟩
  by_cases hx:x=b
  ·subst hx;rw[a]at h;cases h;exact e.elim
  ·rw[c x hx]at h;exact⟨⟨n,h,e⟩,by simp[Bd.at,hx]⟩
 ·intro x v z m g hi h;unfold et at h
  by_cases hx:x=b
  ·subst hx;rw[a]at h;cases h;obtain⟨o,d,l⟩:=hi;simp only at d;rw[f]at d;cases d;simp only[Obj.has]at l;omega
  ·rw[c x hx]at h;exact⟨m,g,h,i7 _,Iff.rfl,fun _=>by simp[Bd.at,hx]⟩
 ·rintro x _ ⟨L,h⟩
  by_cases hx:x=b
  ·subst hx;rw[a]at h;cases h
  ·rw[c x hx]at h;exact⟨⟨L,h⟩,by simp[Bd.at,hx]⟩
theorem Bd.Ub(β:Bd)(b:Nat):β.at b (β.ak b) (β.cap b)=β:=by
 cases β with
 |mk ak cap=>
  simp only[Bd.at,Bd.mk.injEq];constructor
  ·funext x;split
   ·rename_i h;rw[h]
   ·rfl
  ·funext x;split
   ·rename_i h;rw[h]
   ·rfl
theorem z7{α:Type}(A M Z X:List α):(A++M++Z).take A.length++X++(A++M++Z).drop (A.length+M.length)=A++X++Z:=by
 rw[hO A M Z,List.take_left,<-hO,<-hD,List.drop_left]
theorem TO{c:Call}{s x:dk}(Y:o.op= .call c)(hc:c.callee= .builtin .append)(W:c.args.toList=[s,x])(bV:c.argTypes.size=2){H0:Heap}{K:aR->Prop}
 (h:ng P (c.argTypes.getD 0 0) (c.argTypes.getD 1 0) H0 (ρ s) (ρ x) K):
 ∃e,K e/\bf P o ρ H0.length e/\(∀p∈e.aj,H0[p.1]?=some p.2)/\(∀p∈e.aI,p.1<H0.length/\p.2≠.hole):=by
 obtain⟨T,X,S⟩:∃T X,c.argTypes=#[T,X]:=by
  obtain⟨l,I⟩:∃l,l=c.argTypes.toList:=⟨_,rfl⟩
  have af:l.length=2:=by rw[I];simpa using bV
  match l,af with
  |[a,b],_=>exact⟨a,b,by apply cc;simp[<-I]⟩
 have B:s∈o.op.operands/\x∈o.op.operands:=by
  have bF:c.args=#[s,x]:=by apply cc;simpa using W
  rw[Y];simp[g9,ge,hc,bF]
 have e1:c.argTypes.getD 0 0=T:=by rw[S];rfl
 have e2:c.argTypes.getD 1 0=X:=by rw[S];rfl
 rw[e1,e2]at h;unfold ng at h
 split at h
 case h_2=>exact h.elim
 rename_i sz g F hx;obtain⟨ag,a8,am,h⟩:=h;obtain⟨e,i,F⟩:=jE F;obtain⟨z,a8⟩:=j7.1 a8;obtain⟨b4,b1,bh,z2,z3,z4⟩:=n7 a8;rw[F.po]at bh z4;rw[F.info]at bh;cases bh;have aW:b1.cells.size=sz:=by
  obtain⟨_,i2,k1,k2⟩:=wv (v:=.p z) (w:=default) (aa:=fun _=>False) (β:=⟨id,id⟩) (H:=[]) z4 (by simp only[bc];exact z3 _ _);rw[F.info]at k1;cases k1;have:=F.size;simp at k2;omega
 have bb:∀{aj:List (Nat×Obj)},(∀p∈dj H0 (ρ x),p∈aj)->(∀p∈aj,H0[p.1]?=some p.2)->g=[]->(∀(H:Heap)(w:dz)(aa ah:Nat->Prop)(β:Bd)(v:dp),bL P w aa β H ah->(∀p∈aj,H[p.1]?=some p.2)->au P w aa β H (ρ s) v->∃p a b,v= .slice p a b/\a<=b)->
  bf P o ρ H0.length {v:=ρ s,aj}:=by
  intro aj bU aw bW bS;subst bW;refine bf.same fun H w aa ah β av f j aj=>?_;obtain⟨p,a,b,u,bE⟩:=bS H w aa ah β _ f aj (j s B.1).1;obtain⟨E,C,af,bB,bC⟩:=uD (nW hx (fun p u=>aj p (bU p u))) f (j x B.2).1 (j x B.2).2 am;have bl:=bC w rfl 0 (i7 _);simp only[List.take_zero,List.flatten_nil]at bl;have R:=Sl F ag o.type (p:=p) (sLen:=a) (sCap:=b) _ bB bl bE;rw[<-S,<-u]at R;exact⟨_,wG Y hc W R,by rw[u];exact u▸(j s B.1).1,(j s B.1).2⟩
 have a9:∀l:List AV,l.isEmpty=true->l=[]:=fun l h=>by simpa using h
 split at h
 ·
  rename_i hs
  split at h
  ·rename_i G;refine⟨_,h,?_,mQ,by simp⟩;exact bb (fun p u=>u) mQ (a9 _ G) (fun H w aa ah β v _ _ A=>by rw[hs]at A;simp only[au,aA]at A;exact⟨_,_,_,A,i7 _⟩)
  ·rename_i G;obtain⟨bq,h⟩:=h;refine⟨_,h,?_,mQ,by simp⟩;intro H w aa ah β av f j aj aJ;have al:H[H0.length]?=some .hole:=by simpa using aJ 0 (by simp)
   have Q:=(j s B.1).1;rw[hs]at Q;simp only[au,aA]at Q;have bs:0<g.length:=h2.2 (by simpa using G);obtain⟨cap,cells,E,D,ac,an,ad,ao,ap,aq⟩:=wo Y hc W S F ag z2 aW f Q (olds:=[]) (ocss:=[]) rfl (gP.2 rfl) (by simp[aQ]) (by simp[ew])
    (nW hx aj) (j x B.2).1 (j x B.2).2 am (by omega) (by omega)
   obtain⟨q1,Z,ab⟩:=AU (base:=H0.length) (k:=gk P T) (e:=e) (_o':=.hole) f al sQ.1 (fun q=>G (by simpa using q.2)) an ad ao ap aq (fun h=>(sQ.2 h).elim) (CS F.po);simp only[h7,j1]at ac q1 Z ab;exact⟨_,_,_,_,aa,ac,.inl rfl,q1,Z,ab⟩
 ·
  rename_i full d hs;obtain⟨bH,h⟩:=h
  have Q:∀{H:Heap}{w:dz}{aa:Nat->Prop}{β:Bd}{v:dp},au P w aa β H (ρ s) v->∃p c N,v= .slice p d.length c/\d.length<=c/\(full=true->c=d.length)/\Row P w aa β H sz (d.map .p) N/\
   (∀w':dz,w'.heap=w.heap->(ew sz d.length v).run P w'=.ok N.flatten.toArray w'):=by
   intro H w aa β v A;rw[hs]at A;simp only[au,aA]at A;obtain⟨ak,off,cap,ai,E,v1,v2,v3,v4,v5,sp,bT,rfl⟩:=A;rcases bT with rfl|rfl
   case inr=>
    obtain rfl:d=[]:=hT.1 (by omega);exact⟨_,_,[],rfl,by simp,by simp,gP.2 rfl,fun w' _=>zT⟩
   have aM:Row P w aa β H ai (d.map .p) E:=lC.2 v1;have bw:Row P w aa β H sz (d.map .p) E:=by
    by_cases br:d.map AV.p=[]
    ·rw[br]at aM⊢;rw[gP]at aM⊢;exact aM
    ·rw[<-rX aM bH br];exact aM
   refine⟨_,_,E,rfl,v5,v4,bw,fun w' a7=>tP (by have:=(fw bw).2;simpa using this) (v3.same (by rw[a7]))⟩
  split at h
  ·rename_i G;refine⟨_,h,?_,mQ,by simp⟩;exact bb (fun p u=>u) mQ (a9 _ G) (fun H w aa ah β v _ _ A=>by obtain⟨p,c,_,C,af,_⟩:=Q A;exact⟨p,_,c,C,af⟩)
  ·rename_i G;obtain⟨hf,bq,h⟩:=h;refine⟨_,h,?_,mQ,by simp⟩;intro H w aa ah β av f j aj aJ;have al:H[H0.length]?=some .hole:=by simpa using aJ 0 (by simp)
   have bs:0<g.length:=h2.2 (by simpa using G);obtain⟨p,cp,N,s1,s2,bZ,b0,bA⟩:=Q (j s B.1).1;rw[s1]at bA;obtain⟨cap,cells,E,D,ac,an,ad,ao,ap,aq⟩:=wo Y hc W S F ag z2 aW f s1 (olds:=d.map .p) (by simp) b0 (iI _ _) (bA w.drew rfl)
    (nW hx aj) (j x B.2).1 (j x B.2).2 am (by have:=bZ hf;omega) (by omega)
   obtain⟨q1,Z,ab⟩:=AU (base:=H0.length) (k:=gk P T) (e:=e) (_o':=.hole) f al sQ.1 (fun q=>G (by have:=q.2;simp at this;simp[this.2])) an ad ao ap aq (fun h=>(sQ.2 h).elim) (CS F.po);simp only[hD,iz]at Z ab;exact⟨_,_,_,_,aa,ac,.inl rfl,q1,Z,ab⟩
 ·
  rename_i b ar ai off len hs
  split at h
  case h_2=>exact h.elim
  rename_i k b5 b2 d a5;obtain⟨rfl,rfl,rfl,hlen,h⟩:=h;have aw:∀p∈(b,Obj.arr k ar ai d)::dj H0 (ρ x),H0[p.1]?=some p.2:=by
   intro p u;rcases hH.1 u with rfl|u
   ·exact a5
   ·exact mQ p u
  have Q:∀{H:Heap}{w:dz}{aa ah:Nat->Prop}{β:Bd}{v:dp},bL P w aa β H ah->H[b]?=some (.arr k ar ai d)->au P w aa β H (ρ s) v->
   (cU k d/\v=.slice none 0 0/\len=0)\/(¬cU k d/\v=.slice (some ⟨β.ak b,off*ai,none⟩) len (β.cap b-off)/\
   ∃cs T E D,w.heap[β.ak b]?=some (.cells cs T (0,0))/\Row P w aa β H ai d E/\cs.toList=E.flatten++D/\
   cs.size=β.cap b*ai/\d.length<=β.cap b/\(k=.exact->β.cap b=d.length)/\b9 aa β ah (k== .frozen) b/\(k=.bytes->T=Gl.u8)):=by
   intro H w aa ah β v f t A;rw[hs]at A;simp only[au,bG,bK]at A;obtain⟨_,v2,v3⟩:=A.2 k d t
   by_cases q:cU k d
   ·exact .inl ⟨q,v2 q,by have:=q.2;subst this;simp at hlen;omega⟩
   ·rcases f.cg b _ t with hold|⟨cs,O,E,D,k1,k2,k3,k4,k5,k6,k7,k8⟩
    ·exact(q hold).elim
    ·exact .inr ⟨q,v3 q,cs,O,E,D,k1,k2,k3,k4,k5,k6,k7,k8.2⟩
  have holds:∀{H:Heap}{w:dz}{aa:Nat->Prop}{β:Bd}{cs:Array dp}{O:dl}{E:List (List dp)}{D:List dp},w.heap[β.ak b]?=some (.cells cs O (0,0))->Row P w aa β H ai d E->cs.toList=E.flatten++D->
   ∃N,Row P w aa β H ai ((d.drop off).take len) N/\∀(w':dz)(n c:Nat),w'.heap=w.heap->(ew ai len (.slice (some ⟨β.ak b,off*ai,none⟩) n c)).run P w'=.ok N.flatten.toArray w':=by
   intro H w aa β cs O E D k1 k2 k3;obtain⟨a,m,z,g1,g2,g3,g4,g5⟩:=jj k2 off len hlen;refine⟨m,g2,fun w' n c a7=>tP (by have:=(fw g2).2;rw[this];congr 1;simp;omega) ?_⟩;have:=ln k1 (pre:=a.flatten) (xs:=m.flatten) (post:=z.flatten++D) (by rw[k3,g1];simp);rw[g3]at this;exact this.same (by rw[a7])
  split at h
  ·rename_i G;refine⟨_,h,?_,aw,by simp⟩;refine bb (fun p u=>hJ _ u) aw (a9 _ G) (fun H w aa ah β v f aj A=>?_);rcases Q f (aj (b,_) (by simp)) A with⟨_,C,_⟩|⟨q,C,cs,O,E,D,af⟩
   ·exact⟨_,_,_,C,i7 _⟩
   ·exact⟨_,_,_,C,by omega⟩
  ·rename_i G;have bs:0<g.length:=h2.2 (by simpa using G);obtain⟨bq,h⟩:=h
   split at h
   ·exact h.elim
   ·
    split at h
    ·rename_i ay;refine⟨_,h,?_,aw,by simpa using(hB.1 a5).1⟩;intro H w aa ah β av f j aj _;have t:H[b]?=some (.arr .exact ar ai d):=aj (b,_) (by simp);rcases Q f t (j s B.1).1 with⟨q,_⟩|⟨q,C,cs,O,E,D,k1,k2,k3,k4,k5,k6,k7,k8⟩
     ·cases q.1
     obtain⟨M,V,bd,be,bg⟩:=uD (nW hx (fun p u=>aj p (hJ _ u))) f (j x B.2).1 (j x B.2).2 am;have aO:=bg w rfl g.length (i7 _);rw[hU (by have:=(fw V).1;omega)]at aO;have bo:=k6 rfl;obtain⟨a,m,ae,g1,g2,g3,g4,g5⟩:=jj k2 (off+len) g.length ay;have az:=(fw V).2;have ax:m.flatten.length=g.length*ai:=by have:=(fw g2).2;rw[this];congr 1;simp;omega
     have aS:cs.toList=a.flatten++m.flatten++(ae.flatten++D):=by rw[k3,g1];simp
     have bn:a.flatten.length=off*ai+len*ai:=by rw[g3,j2]
     have bx:cs.size=a.flatten.length+m.flatten.length+(ae.flatten++D).length:=by
      have:=congrArg h6 aS;simp only[hD,ck]at this;rw[this,hD]
     have R:=GA F ag o.type (sLen:=len) (sCap:=β.cap b-off) _ be k1 aO (uJ V) (by omega) (by rw[az,bx,bn,ax];exact js _ _);rw[<-S,<-C]at R;have aP:cs.toList.take (off*ai+len*ai)++M.flatten++cs.toList.drop (off*ai+len*ai+M.flatten.length)=a.flatten++M.flatten++(ae.flatten++D):=by
      rw[aS,<-bn,az,<-ax];exact z7 _ _ _ _
     rw[aP]at R;have aF:bX β H β (H.set b (.arr .exact ar ai (d.take (off+len)++g++d.drop (off+len+g.length)))):=ou t (.inr (.inl ⟨_,_,_,_,_,rfl,rfl,by simp;omega⟩));have aI:¬aa (β.ak b)/\¬ah (β.ak b):=by
      unfold b9 at k7;rw[if_neg (by simp)]at k7;exact k7
     have a6:∀J,aa J->(w.setRow (β.ak b) (a.flatten++M.flatten++(ae.flatten++D)).toArray).heap[J]?=w.heap[J]?:=fun J a2=>ec w _ J _ (fun a1=>aI.1 (a1▸a2));have hrefs:aQ (aG H) (d.take (off+len)++g++d.drop (off+len+g.length)):=by
      have bt:=cq.1 (f.refs b _ t);refine ji (ji ?_ bd) ?_
      ·rw[cq];exact fun v A=>bt v (hL A)
      ·rw[cq];exact fun v A=>bt v (hR A)
     have aT:=lD t (o:=.arr .exact ar ai (d.take (off+len)++g++d.drop (off+len+g.length))) (fun _ h=>h);have a3:(d.take (off+len)++g++d.drop (off+len+g.length)).length=d.length:=by simp;omega
     have aL:=pC f t q (o':=.arr .exact ar ai (d.take (off+len)++g++d.drop (off+len+g.length))) (fun U=>by cases U.1) (fun _ h=>h) k1 (new:=(a.flatten++M.flatten++(ae.flatten++D)).toArray) aI aF
      (.inr ⟨_,O,a++M++ae,D,ed w _ _ _ O _ k1,by
       refine Row.mono (fun _ x=>x) a6 aF hrefs (kq.2 ⟨_,_,rfl,kq.2 ⟨_,_,rfl,g4,V⟩,g5⟩),by simp,by
       rw[<-k4,bx];simp only[hN,hD,az,ax],by rw[a3];exact k5,fun _=>by rw[a3];exact bo,k7,(fun aU=>by cases aU),k8⟩) (aQ.mono aT _ hrefs)
     refine⟨_,_,_,β,aa,wG Y hc W R,.inl rfl,aL,?_,?_⟩
     ·simp only[au,bG,bK,ba,newAt,hG];refine⟨by simp[hv],fun J bj I=>?_⟩;unfold et at I;rw[hC (hB.1 t).1]at I;cases I;exact⟨by rw[a3];omega,(fun U=>by cases U.1),fun _=>trivial⟩
     ·simp only[aC];exact⟨_,hC (hB.1 t).1,i7 _⟩
    ·rename_i ay;refine⟨_,h,?_,aw,by simp⟩;intro H w aa ah β av f j aj aJ;have al:H[H0.length]?=some .hole:=by simpa using aJ 0 (by simp)
     have t:H[b]?=some (.arr .exact ar ai d):=aj (b,_) (by simp);rcases Q f t (j s B.1).1 with⟨q,_⟩|⟨q,C,cs,O,E,D,k1,k2,k3,k4,k5,k6,k7,k8⟩
     ·cases q.1
     have bo:=k6 rfl;obtain⟨N,aN,aX⟩:=holds k1 k2 k3;have bp:((d.drop off).take len).length=len:=by simp;omega
     obtain⟨cap,cells,bi,bz,ac,an,ad,ao,ap,aq⟩:=wo Y hc W S F ag z2 aW f C (olds:=(d.drop off).take len) bp aN
      (by rw[cq];exact fun v A=>cq.1 (f.refs b _ t) v (hR (hL A))) (aX w.drew _ _ rfl)
      (nW hx (fun p u=>aj p (hJ _ u))) (j x B.2).1 (j x B.2).2 am (by omega) (by omega)
     obtain⟨q1,Z,ab⟩:=AU (base:=H0.length) (k:=gk P T) (e:=e) (_o':=.hole) f al sQ.1 (fun q=>G (by have:=q.2;simp at this;simp[this.2])) an ad ao ap aq (fun h=>(sQ.2 h).elim) (CS F.po);rw[hD,bp]at Z ab;exact⟨_,_,_,_,aa,ac,.inl rfl,q1,Z,ab⟩
   ·
    rename_i bJ bM;obtain⟨rfl,bN,h⟩:=h;have aK:k≠.frozen:=fun e=>bJ e;have aU:k≠.exact:=fun e=>bM e;have b3:(k==AK.frozen)=false:=by simpa using aK
    refine⟨_,h,?_,aw,by simpa using(hB.1 a5).1⟩;intro H w aa ah β av f j aj _;have t:H[b]?=some (.arr k ar ai d):=aj (b,_) (by simp);have aB:b<H.length:=(hB.1 t).1;have aV:(d.take len).length=len:=by simp;omega
    have bv:aQ (aG H) (d.take len):=by rw[cq];exact fun v A=>cq.1 (f.refs b _ t) v (hL A)
    have a4:¬cU k (d.take len++g):=fun U=>G (by have:=U.2;simp at this;simp[this.2]);have aT:=lD t (o:=.arr k (ar+1) ai (d.take len++g)) (fun v h=>by simp only[Obj.has]at h⊢;omega)
    have bk:∀(p:Option Addr)(aZ:Nat)(N:List (List dp)),av s= .slice p len aZ->Row P w aa β H ai (d.take len) N->(ew ai len (.slice p len aZ)).run P w.drew= .ok N.flatten.toArray w.drew->aZ<len+g.length->
     ∃n a0 w' aH aD,(dq av o).run P w=.ok n w'/\(n=.value a0\/n=.skip/\a0=undef)/\
      bO P ah aa w β H aD w' aH (H.set b (.arr k (ar+1) ai (d.take len++g)))/\au P w' aD aH (H.set b (.arr k (ar+1) ai (d.take len++g))) (.sl b (ar+1) ai 0 (len+g.length)) a0/\
      aC (aG (H.set b (.arr k (ar+1) ai (d.take len++g)))) (.sl b (ar+1) ai 0 (len+g.length)):=by
     intro p aZ N C bQ bP bI;obtain⟨cap,cells,bi,bz,ac,an,ad,ao,ap,aq⟩:=wo Y hc W S F ag z2 aW f C (olds:=d.take len) aV bQ bv bP
      (nW hx (fun p u=>aj p (hJ _ u))) (j x B.2).1 (j x B.2).2 am bI (by omega)
     have aF:=I5 (β:=β) (k':=k) (es':=d.take len++g) (ak:=w.heap.size) (cap:=cap) t;have aL:bO P ah aa w β H aa {w.drew with heap:=w.heap.push (.cells cells e)} (β.at b w.heap.size cap) (H.set b (.arr k (ar+1) ai (d.take len++g))):=by
      refine bO.set f aB (fun y bY=>by simp[Bd.at,bY]) (fun _ y=>y) (fun _ y=>.inl y) (fun k hk=>by have:=f.bM k hk;simp;omega) (by simp)
       (fun k _ hk=>by simp[cy,j5 hk]) (fun _=>.inl (by simp[Bd.at])) aF
       (.inr ⟨cells,e,bi,bz,by simp[Bd.at],Row.mono (fun _ y=>y) (fun k hk=>by have:=f.bM k hk;simp[cy,j5 this]) aF ad an,ao,by simp[Bd.at,ap],by simpa[Bd.at]using aq,(fun aE=>(aU aE).elim),by
        unfold b9;rw[if_neg (by simpa using aK)];simp only[Bd.at,if_true];exact⟨fun h=>i8 _ (f.bM _ h),fun h=>i8 _ (f.dP _ h)⟩,(fun aE=>(aK aE).elim),fun al=>F.po▸bN al⟩)
       (aQ.mono aT _ ad) (fun aN v C af=>by rw[t]at C;cases C;simp only[Obj.has]at af⊢;omega) (fun L bm=>by rw[t]at bm;cases bm)
     refine⟨_,_,_,_,aa,ac,.inl rfl,aL,?_,?_⟩
     ·simp only[au,bG,bK];refine⟨by simp[hv],fun J bj I=>?_⟩;unfold et at I;rw[hC aB]at I;cases I;exact⟨by rw[hD,aV];omega,fun U=>(a4 U).elim,fun _=>by simp[Bd.at]⟩
     ·simp only[aC];exact⟨_,hC aB,i7 _⟩
    simp only[ba,newAt,hG];rcases Q f t (j s B.1).1 with⟨q,C,rfl⟩|⟨q,C,cs,O,E,D,k1,k2,k3,k4,k5,k6,k7,k8⟩
    ·exact bk none 0 [] C (by simp[gP]) (by simp[ew]) (by omega)
    ·simp only[j3,Nat.sub_zero]at C
     by_cases ay:len+g.length<=β.cap b
     ·
      obtain⟨M,V,bd,be,bg⟩:=uD (nW hx (fun p u=>aj p (hJ _ u))) f (j x B.2).1 (j x B.2).2 am;have aO:=bg w rfl g.length (i7 _);rw[hU (by have:=(fw V).1;omega)]at aO;obtain⟨a,m,ae,g1,g2,g3,g4,g5⟩:=jj k2 0 len hlen;have bD:a=[]:=by have:=(fw g4).1;simpa using this
      subst bD;have az:=(fw V).2;have ax:m.flatten.length=len*ai:=by have:=(fw g2).2;rw[this];congr 1
      have aS:cs.toList=m.flatten++(ae.flatten++D):=by rw[k3,g1];simp
      have bR:=Nat.mul_le_mul_right ai ay;rw[j2]at bR;have R:=GA F ag o.type (off:=0) (sLen:=len) (sCap:=β.cap b) _ be k1 aO (uJ V) ay (by rw[az,k4];omega);rw[<-S,<-C]at R;obtain⟨aY,bu⟩:∃r,r=cs.toList.drop (len*ai+M.flatten.length):=⟨_,rfl⟩
      have aP:cs.toList.take (0+len*ai)++M.flatten++cs.toList.drop (0+len*ai+M.flatten.length)=(m++M).flatten++aY:=by
       rw[j1,<-bu];congr 1;rw[aS,<-ax];simp
      rw[aP]at R;have aI:¬aa (β.ak b)/\¬ah (β.ak b):=by
       unfold b9 at k7;rw[if_neg (by simpa using aK)]at k7;exact k7
      have aF:bX β H β (H.set b (.arr k (ar+1) ai (d.take len++g))):=by
       have:=I5 (β:=β) (k':=k) (es':=d.take len++g) (ak:=β.ak b) (cap:=β.cap b) t
       rwa [Bd.Ub]at this
      have a6:∀J,aa J->(w.setRow (β.ak b) ((m++M).flatten++aY).toArray).heap[J]?=w.heap[J]?:=fun J a2=>ec w _ J _ (fun a1=>aI.1 (a1▸a2));have hrefs:aQ (aG H) (d.take len++g):=ji bv bd;have aL:=pC f t q (o':=.arr k (ar+1) ai (d.take len++g)) a4 (fun v h=>by simp only[Obj.has]at h⊢;omega) k1 (new:=((m++M).flatten++aY).toArray) aI aF
       (.inr ⟨_,O,m++M,aY,ed w _ _ _ O _ k1,by
        refine Row.mono (fun _ x=>x) a6 aF hrefs (kq.2 ⟨_,_,rfl,?_,V⟩);simpa using g2,by simp,by
        rw[<-k4];simp only[hN,hD,h3,az,ax,bu,List.length_drop,ck,k4];omega,by rw[hD,aV];exact ay,(fun aE=>(aU aE).elim),k7,(fun h=>(aK h).elim),k8⟩) (aQ.mono aT _ hrefs)
      refine⟨_,_,_,β,aa,wG Y hc W R,.inl rfl,aL,?_,?_⟩
      ·simp only[au,bG,bK];refine⟨by simp[hv],fun J bj I=>?_⟩;unfold et at I;rw[hC aB]at I;cases I;exact⟨by rw[hD,aV];omega,fun U=>(a4 U).elim,fun _=>by simp⟩
      ·simp only[aC];exact⟨_,hC aB,i7 _⟩
     ·obtain⟨N,aN,aX⟩:=holds k1 k2 k3;simp only[h8,j3]at aN aX;exact bk _ _ N C aN (aX w.drew _ _ rfl) (by omega)
 ·exact h.elim
end
section
variable{P:ea}{w:dz}{aa ah:Nat->Prop}{β:Bd}{H:Heap}
variable{o:Oper}{ρ:dk->AV}{base:Nat}
def iA(bs:ByteArray):List Nat:=bs.data.toList.map (·.toNat)
theorem zX:∀{a b:List UInt8},a.map (·.toNat)=b.map (·.toNat)->a=b
 |[],[],_=>rfl
 |[],_::_,h=>by simp at h
 |_::_,[],h=>by simp at h
 |x::a,y::b,h=>by
  simp at h;rw[kb.1 h.1,zX h.2]
theorem bytes_beq(a b:ByteArray):(a.toList==b.toList)=(iA a==iA b):=by
 rw[gc,gc];unfold iA
 by_cases h:a.data.toList=b.data.toList
 ·simp[h]
 ·have d:¬(a.data.toList.map (·.toNat)=b.data.toList.map (·.toNat)):=fun c=>h (zX c)
  rw[beq_eq_false_iff_ne.2 h,beq_eq_false_iff_ne.2 d]
theorem F5:∀a b:List UInt8,hd a b=iJ (a.map (·.toNat)) (b.map (·.toNat))
 |[],[]=>rfl
 |_::_,[]=>rfl
 |[],_::_=>rfl
 |x::a,y::b=>by
  simp only[hd,hF,iJ,F5 a b];congr 1
  ·congr 1
   by_cases h:x=y
   ·simp[h]
   ·have:¬x.toNat=y.toNat:=fun c=>h (kb.1 c);rw[beq_eq_false_iff_ne.2 h,beq_eq_false_iff_ne.2 this]
theorem azJ{c:BinOp}{T j:dl}{x y:dk}{a b:List Nat}{K:PV->Prop}(g:o.op= .binOp c T x y j)(hx:ρ x= .p (.str a))(u:ρ y= .p (.str b))
 (h:oS c a b K)(aj:List (Nat×Obj)):∃v,K v/\bf P o ρ base {v:=.p v,aj}:=by
 have key:∀v,K v->(∀(w:dz)(aa:Nat->Prop)(s t:ByteArray),a=iA s->b=iA t->∃r,(hh c s t).run P w=.ok r w/\aA P w aa v r)->∃v,K v/\bf P o ρ base {v:=.p v,aj}:=by
  intro v q n;refine⟨v,q,bf.same fun H w aa ah β C B i _=>?_⟩;have e:=(i x (by simp[g,g9])).1;have f:=(i y (by simp[g,g9])).1;rw[hx]at e;rw[u]at f;simp only[au,KZ]at e f;obtain⟨s,e1,e2⟩:=e;obtain⟨t,e3,e4⟩:=f;obtain⟨r,z,A⟩:=n w aa s t e2 e4;refine⟨r,?_,by simpa only[au]using A,by simp[aC]⟩;simp only[dq,g,e1,e3];refine dX ?_;have l:(eqGuard c T x y (.string s) (.string t)).run P w=.ok () w:=by
   unfold eqGuard
   split<;>simp
  have k:(binOp c T (.string s) (.string t)).run P w=.ok r w:=by
   cases c<;>first|(simp[oS]at h;done)|exact z
  simp[l,k]
 have m:∀s t:ByteArray,a=iA s->b=iA t->hd s.toList t.toList=iJ a b/\(s.toList==t.toList)=(a==b):=by
  intro s t hs d;rw[bytes_beq,<-hs,<-d,F5,gc,gc];exact⟨by rw[hs,d];rfl,rfl⟩
 cases c<;>simp only[oS]at h
 case add=>
  refine key _ h.2 fun w aa s t hs d=>⟨.string (s++t),run_string_add_sum w s t ?_,?_⟩
  ·have e:a.length=s.size:=by rw[hs];simp[iA]
   have f:b.length=t.size:=by rw[d];simp[iA]
   omega
  ·rw[KZ];exact⟨_,rfl,by rw[hs,d];simp[iA,ByteArray.data_append]⟩
 case eql|neq|lss|leq|gtr|geq=>
  refine key _ h fun w aa s t hs d=>?_;obtain⟨e1,e2⟩:=m s t hs d;exact⟨_,by simp only[hh,e1,e2];rfl,by simp[aA]⟩
theorem Q8{T:dl}(h:pZ P T=true):P.underlying T=some .bool:=by
 unfold pZ at h
 split at h
 ·assumption
 ·simp at h
theorem FW{T:dl}{a b:dp}{r:Bool}{w:dz}(h:(hb T a b).run P w= .ok r w)(d:(∃x,a= .bool x)\/(∃x,a= .agg x)\/(∃p n c,a= .slice p n c)\/(∃m,a= .map m)\/a= .nilFunc\/(∃f x y,a= .func f x y)\/(∃p,a= .pointer p)\/a= .nilIface):
 (binOp .eql T a b).run P w=.ok (.bool r) w/\(binOp .neq T a b).run P w=.ok (.bool !r) w:=by
 rcases d with⟨x,rfl⟩|⟨x,rfl⟩|⟨p,n,c,rfl⟩|⟨m,rfl⟩|rfl|⟨f,x,y,rfl⟩|⟨p,rfl⟩|rfl
 all_goals (constructor<;>(unfold binOp;simp[h]))
def iV.isAgg:iV->Bool
 | .agg _=>true
 |_=>false
theorem Ug{T:dl}{t:iV}(hk:kindOf P T=t)(a:t≠.bad)(w:dz):(isAgg T).run P w=.ok t.isAgg w:=by
 unfold kindOf at hk;cases hu:P.underlying T with
 |none=>rw[hu]at hk;simp at hk;exact(a hk.symm).elim
 |some d=>
  rw[hu]at hk;simp only[isAgg,ho,dg hu,hm];cases d<;>simp only at hk<;>(split at hk<;>first|(subst hk;rfl)|exact(a hk.symm).elim)
theorem qd{F:dl}{v:PV}{pre c post:List dp}{cs:Array dp}(hk:kindOf P F=aJ v)(b:aS P w aa v c)(e:cs.toList=pre++c++post):
 ∃x,(part F cs pre.length).run P w=.ok x w/\aA P w aa v x:=by
 obtain⟨j,i,f,g⟩:=wv (v:=.p v) (β:=⟨id,id⟩) (H:=[]) (w:=w) (aa:=aa) hk (by simpa only[bc]using b);have d:=(mY b).2;have a:=Ug hk d w;cases hs:aJ v with
 |bad=>exact(d hs).elim
 |leaf=>
  rw[hs]at a;obtain⟨x,rfl,hx⟩:=(rY hs c).1 b;refine⟨x,?_,hx⟩;have:cs[pre.length]?=some x:=by rw[<-ce,e];simp
  simp[part,a,this,iV.isAgg]
 |agg u=>
  rw[hs]at a;refine⟨.agg c.toArray,?_,(uL hs c).1 b⟩;have h:(sizeOf F).run P w=.ok c.length w:=by simp[sizeOf,typeInfo,f,g]
  have:cs.extract pre.length (pre.length+c.length)=c.toArray:=by
   apply cc;rw[Array.toList_extract,e];simp[List.extract_eq_take_drop]
  simp[part,a,h,this,iV.isAgg]
theorem uK{n:Nat}{b:List Nat}{v:PV}{vs:List PV}{a:List (List dp)}(h:aY P w aa (n::b) (v::vs) a):∃c cs,a=c::cs/\aS P w aa v c/\c.length=n/\aY P w aa b vs cs:=by
 simpa only[aY]using h
theorem F3{eqF:dl->PV->PV->Option Bool}{d:Nat}(A:∀F a b r,eqF F a b=some r->kindOf P F=aJ a->kindOf P F=aJ b->∀x y,aA P w aa a x->aA P w aa b y->(ha d F x y).run P w= .ok r w){X Y:Array dp}:
 ∀(fs:List ei)(l:List Nat)(h j:List PV)(r:Bool)(pre k:List dp)(m o:List (List dp)),iE P eqF (fs.map (·.type)) h j=some r->fs.all (fun f=>f.name != "_")=true->
 (∀(i:Nat)(f:ei),fs[i]?=some f->f.offset=pre.length+(l.take i).sum)->aY P w aa l h m->aY P w aa l j o->pre.length=k.length->
 X.toList=pre++m.flatten->Y.toList=k++o.flatten->(he d X Y fs).run P w=.ok r w
 |[],l,h,j,r,pre,k,m,o,e,_,_,_,_,_,_,_=>by
  cases h<;>cases j<;>simp[iE]at e;subst e;simp[he]
 |f::fs,l,h,j,r,pre,k,m,o,e,p,u,hx,K,z,s,hY=>by
  cases h with
  |nil=>simp[iE]at e
  |cons a h=>
   cases j with
   |nil=>simp[iE]at e
   |cons b j=>
    cases l with
    |nil=>simp[aY]at hx
    |cons n l=>
     simp only[hF,iE]at e
     split at e
     case isFalse=>simp at e
     rename_i hk
     split at e
     case h_2=>simp at e
     rename_i M N D E;simp at e;subst e;obtain⟨c,cs,rfl,hc,t,J⟩:=uK hx;obtain⟨c',q,rfl,G,H,L⟩:=uK K;simp only[List.all_cons,db,bne_iff_ne]at p;have v:f.offset=pre.length:=by simpa using u 0 f (by simp)
     obtain⟨x,B,Q⟩:=qd hk.1 hc (pre:=pre) (post:=cs.flatten) (cs:=X) (by rw[s];simp);obtain⟨y,C,R⟩:=qd hk.2 G (pre:=k) (post:=q.flatten) (cs:=Y) (by rw[hY];simp);have e1:=A _ _ _ _ D hk.1 hk.2 x y Q R;rw[<-v]at B;rw[<-z,<-v]at C;have O:=F3 A fs l h j N (pre++c) (k++c') cs q E p.2 (by
      intro i g I;have:=u (i+1) g (by simpa using I);rw[this,ik,i0,hD,t];omega) J L (by simp[z,t,H]) (by rw[s];simp) (by rw[hY];simp)
     simp only[he,p.1,ne_eq,not_false_eq_true,if_true,ho,B,C,e1,hm];cases M with
     |false=>simp
     |true=>simpa using O
theorem E6{eqF:dl->PV->PV->Option Bool}{d:Nat}{e:dl}(t:∀a b r,eqF e a b=some r->∀x y,aA P w aa a x->aA P w aa b y->(ha d e x y).run P w= .ok r w){X Y:Array dp}:
 ∀(n k:Nat)(g h:List PV)(r:Bool)(pre i:List dp)(j l:List (List dp)),iE P eqF (hE n e) g h=some r->
 aY P w aa (hE n (P.cellsOf e)) g j->aY P w aa (hE n (P.cellsOf e)) h l->pre.length=k*P.cellsOf e->i.length=k*P.cellsOf e->
 X.toList=pre++j.flatten->Y.toList=i++l.flatten->(hg d e (P.cellsOf e) X Y (List.range' k n)).run P w=.ok r w
 |0,k,g,h,r,pre,i,j,l,f,_,_,_,_,_,_=>by
  cases g<;>cases h<;>simp[iE]at f;subst f;simp[hg]
 |n+1,k,g,h,r,pre,i,j,l,f,hx,s,p,q,o,hY=>by
  cases g with
  |nil=>simp[hZ,iE]at f
  |cons a g=>
   cases h with
   |nil=>simp[hZ,iE]at f
   |cons b h=>
    rw[hZ]at f hx s;simp only[iE]at f
    split at f
    case isFalse=>simp at f
    rename_i hk
    split at f
    case h_2=>simp at f
    rename_i G H z A;simp at f;subst f;obtain⟨c,cs,rfl,hc,C,E⟩:=uK hx;obtain⟨c',m,rfl,B,D,F⟩:=uK s;obtain⟨x,u,J⟩:=qd hk.1 hc (pre:=pre) (post:=cs.flatten) (cs:=X) (by rw[o];simp);obtain⟨y,v,K⟩:=qd hk.2 B (pre:=i) (post:=m.flatten) (cs:=Y) (by rw[hY];simp);have e1:=t _ _ _ z x y J K;rw[p]at u;rw[q]at v;have I:=E6 t n (k+1) g h H (pre++c) (i++c') cs m A E F (by rw[hD,p,C,j4]) (by rw[hD,q,D,j4]) (by rw[o];simp) (by rw[hY];simp);rw[List.range'_succ];simp only[hg,ho,u,v,e1,hm];cases G with
    |false=>simp
    |true=>simpa using I
theorem xB:∀(n:Nat)(T:dl)(v v':PV)(r:Bool),gT P n T v v'=some r->∀x y,aA P w aa v x->aA P w aa v' y->∀d,n<=d->(ha d T x y).run P w=.ok r w
 |0,_,_,_,_,h,_,_,_,_,_,_=>by simp[gT]at h
 |n+1,T,v,v',r,h,x,y,hx,g,d,L=>by
  obtain⟨d,rfl⟩:∃e,d=e+1:=⟨d-1,by omega⟩
  unfold gT at h
  split at h
  ·rename_i a b c;simp at h;subst h;simp only[aA]at hx g;subst hx;subst g;simp[ha,dg c]
  ·rename_i k0 k a M b c
   split at h
   case isFalse=>simp at h
   rename_i hk;subst hk;simp at h;subst h;simp only[aA]at hx g;subst hx;subst g;exact run_equalIn_int w d T k k0 a b c
  ·rename_i a b c;simp at h;subst h;simp only[aA]at hx g;obtain⟨s,rfl,hs⟩:=hx;obtain⟨t,rfl,H⟩:=g;rw[run_equalIn_string w d T s t c,bytes_beq,hs,H];rfl
  ·rename_i fs u A u' B c
   split at h
   case isFalse=>simp at h
   rename_i hc;obtain⟨hk,rfl,G,E⟩:=hc;simp only[aA]at hx g;obtain⟨l,j,k1,k2,rfl⟩:=hx;obtain⟨D,o,k3,k4,rfl⟩:=g;rw[k1]at k3;cases k3;obtain⟨K,D,s1,s2,q,z,N,I⟩:=tT (P:=P) (T:=T) (u:=u') (n:=fs.size) (by unfold fB;rw[hk,c]);rw[c]at s1;cases s1;rw[k1]at z;cases z;have C:P.fieldsOf T=fs:=by simp[Program.fieldsOf,c]
   rw[run_equalIn_struct w d T _ _ (by rw[C];exact c) G,C];refine F3 (eqF:=gT P n) (fun F a b r p _ _ x y hx g=>xB n F a b r p x y hx g d (by omega)) fs.toList l A B r [] [] j o h E ?_ k2 k4 rfl (by simp) (by simp);intro i f hf;have hi:i<fs.size:=by
    have:=(hB.1 hf).1;simpa using this
   obtain⟨J,g1,g2,_⟩:=I i hi;rw[ce,g1]at hf;cases hf;simpa using g2
  ·rename_i m e u A u' B c
   split at h
   case isFalse=>simp at h
   rename_i hc;obtain⟨hk,rfl,hi⟩:=hc;simp only[aA]at hx g;obtain⟨l,j,k1,k2,rfl⟩:=hx;obtain⟨D,o,k3,k4,rfl⟩:=g;rw[k1]at k3;cases k3;obtain⟨e',s1,s2,q,z⟩:=sd (P:=P) (T:=T) (u:=u') (n:=m) (by unfold gJ;rw[hk,c]);rw[c]at s1;cases s1;rw[k1]at q;cases q;obtain⟨i,hi⟩:=j7.1 hi;rw[run_equalIn_array w d _ _ c hi,List.range_eq_range'];exact E6 (eqF:=gT P n) (fun a b r p x y hx g=>xB n e a b r p x y hx g d (by omega)) m 0 A B r [] [] j o h k2 k4 (by simp) (by simp) (by simp) (by simp)
  ·simp at h
end
section
variable{P:ea}{w:dz}{aa ah:Nat->Prop}{β:Bd}{H:Heap}
variable{o:Oper}{ρ:dk->AV}{base:Nat}
theorem Cd{d:BinOp}{T C:dl}{x y:dk}{r:Bool}{K:PV->Prop}{l:List (Nat×Obj)}(k:o.op= .binOp d T x y C)
 (D:d=.eql/\K (.bool r)\/d=.neq/\K (.bool !r))
 (I:∀(H:Heap)(w:dz)(aa ah:Nat->Prop)(β:Bd)(a b:dp),bL P w aa β H ah->(∀p∈l,H[p.1]?=some p.2)->au P w aa β H (ρ x) a->au P w aa β H (ρ y) b->(hb T a b).run P w=.ok r w/\
  ((∃x,a=.bool x)\/(∃x,a=.agg x)\/(∃p n c,a=.slice p n c)\/(∃m,a=.map m)\/a=.nilFunc\/(∃f x y,a=.func f x y)\/(∃p,a=.pointer p)\/(a=.nilIface/\lQ y=true))/\(∀u v,a=.agg u->b=.agg v->P.eqGuardType P.depth T=false)):
 ∃v,K v/\bf P o ρ base {v:=.p v,aj:=l}:=by
 have key:∀v,K v->(∀(w:dz)(a b:dp),(hb T a b).run P w= .ok r w->((∃x,a= .bool x)\/(∃x,a= .agg x)\/(∃p n c,a= .slice p n c)\/(∃m,a= .map m)\/a= .nilFunc\/(∃f x y,a= .func f x y)\/(∃p,a= .pointer p)\/a= .nilIface)->
  ∃q,v=.bool q/\(binOp d T a b).run P w=.ok (.bool q) w)->∃v,K v/\bf P o ρ base {v:=.p v,aj:=l}:=by
  intro v J hq;refine⟨v,J,bf.same fun H w aa ah β s G t aj=>?_⟩;obtain⟨L,z,A⟩:=I H w aa ah β _ _ G aj (t x (by simp[k,g9])).1 (t y (by simp[k,g9])).1;obtain⟨q,rfl,F⟩:=hq w _ _ L (by rcases z with h|h|h|h|h|h|h|h<;>simp[h]);refine⟨.bool q,?_,by simp[au,aA],by simp[aC]⟩;simp only[dq,k];refine dX ?_;have E:(eqGuard d T x y (s x) (s y)).run P w=.ok () w:=by
   rcases z with⟨p,e⟩|⟨p,e⟩|⟨p,n,c,e⟩|⟨m,e⟩|e|⟨f,M,N,e⟩|⟨p,e⟩|⟨e,hc⟩
   all_goals rw[e]at A⊢
   case inr.inl=>
    cases hy:s y with
    |agg B=>
     exact run_eqGuard_agg w d T x y p B (A p B rfl hy)
    |_=>cases d<;>rfl
   case inr.inr.inr.inr.inr.inr.inr=>
    cases y<;>simp[lQ]at hc;unfold eqGuard;cases d<;>simp<;>(split<;>simp_all)
   all_goals (cases d<;>rfl)
  simp[E,F]
 rcases D with⟨rfl,j⟩|⟨rfl,j⟩
 ·exact key _ j fun w a b g i=>⟨_,rfl,(FW g i).1⟩
 ·exact key _ j fun w a b g i=>⟨_,rfl,(FW g i).2⟩
theorem xu(T:dl)(a b:dp):∃d,9<=d+1/\hb T a b=ha (d+1) T a b:=⟨9999,by omega,rfl⟩
theorem Hh{T:dl}{c:Bool}{b:AV}{k:tC}(h:di P T c b=some k):
 (k=.ptr/\b=.p .du/\∃e,P.underlying T=some (.pointer e))\/(k=.slice/\b=.p .aO/\∃e,P.underlying T=some (.slice e))\/
 (k=.map/\b=.p .fa/\∃e f,P.underlying T=some (.map e f))\/(k=.func/\b=.p .gV/\∃e f g,P.underlying T=some (.func e f g))\/(k=.iface/\b=.p .fD/\c=true/\∃m,P.underlying T=some (.interface m)):=by
 unfold di at h
 split at h<;>first
  |(split at h
    ·rename_i a;simp at h;subst h;simp[a]
    ·simp at h)
  |simp at h
theorem azr{T:dl}{c:Bool}{H0:Heap}{a b:AV}{r:Bool}{k:tC}(hk:di P T c b=some k)(h:cK H0 k a=some r){l s:dp}(aj:∀p∈dj H0 a,H[p.1]?=some p.2)(i:au P w aa β H a l)(C:au P w aa β H b s):
 (hb T l s).run P w=.ok r w/\((∃x,l=.bool x)\/(∃x,l=.agg x)\/(∃p n c,l=.slice p n c)\/(∃m,l=.map m)\/l=.nilFunc\/(∃f x y,l=.func f x y)\/(∃p,l=.pointer p)\/(l=.nilIface/\c=true))/\(∀u v,l=.agg u->s=.agg v->P.eqGuardType P.depth T=false):=by
 obtain⟨d,_,I⟩:=xu T l s;rw[I];rcases Hh hk with⟨rfl,rfl,e,j⟩|⟨rfl,rfl,e,j⟩|⟨rfl,rfl,e,f,j⟩|⟨rfl,rfl,e,f,g,j⟩|⟨rfl,rfl,G,m,j⟩
 all_goals simp only[au,aA]at C
 all_goals subst C
 ·cases a<;>simp only[cK]at h
  case p v=>
   cases v<;>simp only at h<;>simp at h
   all_goals subst h
   all_goals simp only[au,aA]at i
   ·subst i;simp[ha,dg j]
   ·obtain⟨_,_,_,_,_,_,rfl⟩:=i;simp[ha,dg j]
  case ptr B path=>
   simp only[au,bG,bK]at i;obtain⟨_,_,_,_,rfl,_⟩:=i
   split at h
   ·simp at h;subst h;simp[ha,dg j]
   ·simp at h
  all_goals simp at h
 ·cases a<;>simp only[cK]at h
  case p v=>
   cases v
   case seq o=>
    cases o with
    |nil=>simp at h
    |cons e o=>
     simp at h;subst h;simp only[au,aA]at i;rcases i with⟨J,_⟩|⟨_,_,_,_,_,_,_,_,_,_,_,rfl⟩
     ·cases J
     ·simp[ha,dg j]
   all_goals simp only at h
   all_goals simp at h
   all_goals subst h
   all_goals simp only[au,aA]at i
   ·subst i;simp[ha,dg j]
   ·obtain⟨_,_,_,_,_,_,_,_,_,_,_,_,rfl⟩:=i;simp[ha,dg j]
  case sl B ar ai off len=>
   simp only[au,bG,bK]at i;simp only[dj]at aj
   split at h
   case h_2=>simp at h
   rename_i A M L o t;rw[t]at aj;have z:=aj _ (h4.2 rfl)
   split at h
   case isFalse=>simp at h
   rename_i hc;obtain⟨rfl,rfl⟩:=hc;obtain⟨_,E,F⟩:=i.2 A o z
   by_cases q:cU A o
   ·rw[E q];have:r=true:=by simp at h;rw[<-h];simp[q.1,q.2]
    subst this;simp[ha,dg j]
   ·rw[F q];have:r=false:=by
     simp at h;rw[<-h];unfold cU at q
     by_cases D:A.gr=true
     ·have K:o≠[]:=fun h=>q ⟨D,h⟩;simp[K]
     ·simp[D]
    subst this;simp[ha,dg j]
  all_goals simp at h
 ·cases a<;>simp only[cK]at h
  case p v=>
   cases v<;>simp only at h<;>simp at h
   all_goals subst h
   all_goals simp only[au,aA]at i
   ·subst i;simp[ha,dg j]
   ·obtain⟨_,_,_,_,_,_,rfl⟩:=i;simp[ha,dg j]
  case map B=>
   simp only[au,bG,bK]at i;simp only[dj]at aj
   split at h
   case h_2=>simp at h
   rename_i fz o t;rw[t]at aj;have z:=aj _ (h4.2 rfl);rw[i.2.1 ⟨_,z,trivial⟩];simp at h;subst h;simp[ha,dg j]
  all_goals simp at h
 ·cases a<;>simp only[cK]at h
  case p v=>
   cases v<;>simp only at h<;>simp at h
   all_goals subst h
   all_goals simp only[au,aA]at i
   ·obtain⟨_,_,_,_,rfl⟩:=i;simp[ha,dg j]
   ·subst i;simp[ha,dg j]
  case func f first gS=>
   simp only[au]at i;obtain⟨_,_,_,_,rfl⟩:=i;simp at h;subst h;simp[ha,dg j]
  all_goals simp at h
 ·cases a<;>simp only[cK]at h
  case p v=>
   cases v<;>simp only at h<;>simp at h
   all_goals subst h
   all_goals simp only[au,aA]at i
   subst i;simp[ha,dg j,G]
  all_goals simp at h
theorem azA{i:BinOp}{T s:dl}{x y:dk}{K:PV->Prop}{H0:Heap}(j:o.op= .binOp i T x y s)(h:jM P i T (lQ y) H0 (ρ x) (ρ y) K):
 ∃v,K v/\bf P o ρ base {v:=.p v,aj:=dj H0 (ρ x)}:=by
 unfold jM at h
 split at h
 ·rename_i k a C b hx g;exact azE j hx g h.1 h.2 _
 ·rename_i a b hx g;exact azJ j hx g h _
 ·rename_i a b hx g;obtain⟨z,h⟩:=h;have m:=Q8 z;refine Cd (r:=a==b) j ?_ ?_
  ·split at h
   ·exact .inl ⟨rfl,h⟩
   ·exact .inr ⟨rfl,h⟩
   ·exact h.elim
  ·intro H w aa ah β n q e aj f c;rw[hx]at f;rw[g]at c;simp only[au,aA]at f c;subst f;subst c;obtain⟨d,_,l⟩:=xu T (.bool a) (.bool b);rw[l];exact⟨by simp[ha,dg m],.inl ⟨_,rfl⟩,fun u v m _=>by cases m⟩
 ·rename_i u fs u' t hx g;obtain⟨B,h⟩:=h;obtain⟨r,e,c⟩:∃r,gT P 9 T (.st u fs) (.st u' t)=some r/\(i=.eql/\K (.bool r)\/i=.neq/\K (.bool !r)):=by
   split at h
   ·rename_i r e;exact⟨r,e,.inl ⟨rfl,h⟩⟩
   ·rename_i r e;exact⟨r,e,.inr ⟨rfl,h⟩⟩
   ·exact h.elim
  refine Cd (r:=r) j c ?_;intro H w aa ah β n q _ aj f c;rw[hx]at f;rw[g]at c;simp only[au]at f c;refine⟨?_,?_,fun u v _ _=>by simpa[qU]using B⟩
  ·obtain⟨d,A,l⟩:=xu T n q;rw[l];exact xB 9 T _ _ r e _ _ f c (d+1) A
  ·simp only[aA]at f;obtain⟨_,_,_,_,rfl⟩:=f;exact .inr (.inl ⟨_,rfl⟩)
 ·rename_i hx g
  split at h
  case h_2=>exact h.elim
  rename_i k hk;obtain⟨r,e,c⟩:∃r,cK H0 k (ρ x)=some r/\(i=.eql/\K (.bool r)\/i=.neq/\K (.bool !r)):=by
   split at h
   ·rename_i r e;exact⟨r,e,.inl ⟨rfl,h⟩⟩
   ·rename_i r e;exact⟨r,e,.inr ⟨rfl,h⟩⟩
   ·exact h.elim
  exact Cd (r:=r) j c fun H w aa ah β n q _ aj f c=>azr hk e aj f c
end
section
variable{P:ea}{w:dz}{aa ah:Nat->Prop}{β:Bd}{H:Heap}
variable{o:Oper}{ρ:dk->AV}{base:Nat}
theorem nm{c:dk->dp}:∀(l:List dk),(∀x∈l,au P w aa β H (ρ x) (c x)/\aC (aG H) (ρ x))->br P w aa β H (l.map ρ) (l.map c)/\aQ (aG H) (l.map ρ)
 |[],_=>by simp[br,aQ]
 |x::l,h=>by
  have a:=h x (by simp);have b:=nm l (fun y d=>h y (by simp[d]));simp only[hF,br,aQ];exact⟨⟨_,_,rfl,a.1,b.1⟩,a.2,b.2⟩
theorem xm{H0:Heap}:∀(l:List AV){j:List PV}{aj aI:List (Nat×Obj)}{H:Heap}{aa:Nat->Prop}{vs:List dp},fh H0 l=some (j,aj,aI)->bL P w aa β H ah->br P w aa β H l vs->aQ (aG H) l->
 (∀p∈aj,∃f fz t,p.2=.box fz t/\H[p.1]?=some (.box f t))->∃aD,bO P ah aa w β H aD w β (ba H aI)/\bp P w aD j vs/\∀p∈aI,p.1<H0.length/\p.2≠.hole
 |[],j,aj,aI,H,aa,vs,h,i,e,_,_=>by
  simp[fh]at h;obtain⟨rfl,rfl,rfl⟩:=h;simp only[br]at e;exact⟨aa,bO.refl i,by simpa[bp]using e,by simp⟩
 |a::l,j,aj,aI,H,aa,vs,h,i,e,d,m=>by
  simp only[br]at e;obtain⟨y,x,rfl,n,u⟩:=e;simp only[aQ]at d;cases a with
  |p v=>
   simp only[fh]at h
   split at h
   case h_2=>simp at h
   rename_i G B E k;simp at h;obtain⟨rfl,rfl,rfl⟩:=h;obtain⟨aD,q1,o,q⟩:=xm l k i u d.2 m;simp only[au]at n;exact⟨aD,q1,by simp only[bp];exact⟨y,x,rfl,aA.mono q1.bM (fun _ _=>rfl) _ _ n,o⟩,q⟩
  |ptr b path=>
   cases path with
   |cons _ _=>simp[fh]at h
   |nil=>
    simp only[fh]at h
    split at h
    case h_2=>simp at h
    rename_i fz t G B E C k;simp at h;obtain⟨rfl,rfl,rfl⟩:=h;obtain⟨f,J,K,e1,e2⟩:=m (b,.box fz (.p t)) (by simp);cases e1;have D:j0 H (.ptr b [])=some (.bY t,H.set b (.box true (.p t))):=by
     simp only at e2;simp[j0,e2,ke]
    obtain⟨I,g,F⟩:=H7 D i n d.1;have A:b<H.length:=(hB.1 e2).1;obtain⟨z,q1,o,q⟩:=xm l k g.rel (br.mono g.bM (fun _ _=>rfl) g.step _ _ d.2 u) (aQ.mono g.eH _ d.2) (by
     intro p c;obtain⟨f2,r,t2,g1,g2⟩:=m p (by simp[c])
     by_cases s:b=p.1
     ·rw[<-s]at g2⊢;simp only at e2;rw[e2]at g2;cases g2;exact⟨true,r,_,g1,by rw[hC A]⟩
     ·exact⟨f2,r,t2,g1,by rw[hK s];exact g2⟩)
    refine⟨z,by simpa only[ba]using g.trans q1,?_,?_⟩
    ·simp only[bp];exact⟨y,x,rfl,aA.mono q1.bM (fun _ _=>rfl) _ _ F,o⟩
    ·intro p c;rcases hH.1 c with rfl|c
     ·exact⟨(hB.1 C).1,by simp⟩
     ·exact q p c
  |_=>simp[fh]at h
theorem Se{f:ee}{fi ca:Array dk}(E:o.op= .makeFunc (.func f) fi ca):
 (∀a b,ez (fi.toList.map ρ)=some a->ez (ca.toList.map ρ)=some b->bf P o ρ base {v:=.p (.func f a b)})/\
 bf P o ρ base {v:=.func f (fi.toList.map ρ) (ca.toList.map ρ)}/\
 (∀(H0:Heap) a b aj aI,fh H0 (fi.toList.map ρ)=some (a,[],[])->fh H0 (ca.toList.map ρ)=some (b,aj,aI)->bf P o ρ base {v:=.p (.func f a b),aj,aI}/\(∀p∈aj,H0[p.1]?=some p.2)/\(∀p∈aI,p.1<H0.length/\p.2≠.hole)):=by
 have g:∀x,x∈fi.toList\/x∈ca.toList->x∈o.op.operands:=by
  intro x hx;rw[E];simp only[g9,Array.mem_append];simpa using hx
 have u:∀(c:dk->dp)(w:dz),(dq c o).run P w=.ok (.value (.func (.func f) (fi.toList.map c).toArray (ca.toList.map c).toArray)) w:=by
  intro c w;simp only[dq,E];refine dX ?_;have j:(fi.toList.map c).toArray=fi.map c:=by apply cc;simp
  have k:(ca.toList.map c).toArray=ca.map c:=by apply cc;simp
  rw[j,k];simp[Instr.makeFunc]
 refine⟨?_,?_,?_⟩
 ·intro a b s m;refine bf.same fun H w aa ah β c z e _=>⟨_,u c w,?_,by simp[aC]⟩
  obtain⟨j,_⟩:=nm fi.toList (fun x hx=>e x (g x (.inl hx)));obtain⟨k,_⟩:=nm ca.toList (fun x hx=>e x (g x (.inr hx)));rw[lB s]at j;rw[lB m]at k;simp only[au,aA];exact⟨_,_,jb.1 j,jb.1 k,rfl⟩
 ·refine bf.same fun H w aa ah β c z e _=>⟨_,u c w,?_,?_⟩
  ·simp only[au];exact⟨_,_,(nm fi.toList (fun x hx=>e x (g x (.inl hx)))).1,(nm ca.toList (fun x hx=>e x (g x (.inr hx)))).1,rfl⟩
  ·simp only[aC];exact⟨(nm fi.toList (fun x hx=>e x (g x (.inl hx)))).2,(nm ca.toList (fun x hx=>e x (g x (.inr hx)))).2⟩
 ·intro H0 a b aj aI s m;have D:∀p∈aj,H0[p.1]?=some p.2/\∃fz t,p.2=.box fz t:=by
   have:∀(l:List AV)(b:List PV)(aj aI:List (Nat×Obj)),fh H0 l=some (b,aj,aI)->∀p∈aj,H0[p.1]?=some p.2/\∃fz t,p.2=.box fz t:=by
    intro l
    induction l with
    |nil=>intro b aj aI h;simp[fh]at h;obtain⟨rfl,rfl,rfl⟩:=h;simp
    |cons x l q=>
     intro b aj aI h;cases x with
     |p v=>
      simp only[fh]at h
      split at h
      case h_2=>simp at h
      rename_i B n A i;simp at h;obtain⟨rfl,rfl,rfl⟩:=h;exact q _ _ _ i
     |ptr J path=>
      cases path with
      |cons _ _=>simp[fh]at h
      |nil=>
       simp only[fh]at h
       split at h
       case h_2=>simp at h
       rename_i fz t B n A y i;simp at h;obtain⟨rfl,rfl,rfl⟩:=h;intro p d;rcases hH.1 d with rfl|d
       ·exact⟨y,_,_,rfl⟩
       ·exact q _ _ _ i p d
     |_=>simp[fh]at h
   exact this _ _ _ _ m
  have K:∀p∈aI,p.1<H0.length/\p.2≠.hole:=by
   have:∀(l:List AV)(b:List PV)(aj aI:List (Nat×Obj)),fh H0 l=some (b,aj,aI)->∀p∈aI,p.1<H0.length/\p.2≠.hole:=by
    intro l
    induction l with
    |nil=>intro b aj aI h;simp[fh]at h;obtain⟨rfl,rfl,rfl⟩:=h;simp
    |cons x l q=>
     intro b aj aI h;cases x with
     |p v=>
      simp only[fh]at h
      split at h
      case h_2=>simp at h
      rename_i B n A i;simp at h;obtain⟨rfl,rfl,rfl⟩:=h;exact q _ _ _ i
     |ptr J path=>
      cases path with
      |cons _ _=>simp[fh]at h
      |nil=>
       simp only[fh]at h
       split at h
       case h_2=>simp at h
       rename_i fz t B n A y i;simp at h;obtain⟨rfl,rfl,rfl⟩:=h;intro p d;rcases hH.1 d with rfl|d
       ·exact⟨(hB.1 y).1,by simp⟩
       ·exact q _ _ _ i p d
     |_=>simp[fh]at h
   exact this _ _ _ _ m
  refine⟨?_,fun p d=>(D p d).1,K⟩;intro H w aa ah β c z e n _;obtain⟨j,N⟩:=nm fi.toList (fun x hx=>e x (g x (.inl hx)));obtain⟨k,G⟩:=nm ca.toList (fun x hx=>e x (g x (.inr hx)));obtain⟨O,r,L,_⟩:=xm _ s z j N (by simp);simp only[ba]at r;obtain⟨I,q1,M,_⟩:=xm _ m r.rel (br.mono r.bM (fun _ _=>rfl) r.step _ _ G k) G (by
   intro p d;obtain⟨_,fz,t,F⟩:=D p d;have C:=n p d;rw[F]at C;exact⟨fz,fz,t,F,C⟩)
  simp only[newAt,hG];refine⟨_,_,w,β,I,u c w,.inl rfl,r.trans q1,?_,by simp[aC]⟩;simp only[au,aA];exact⟨_,_,bp.mono q1.bM (fun _ _=>rfl) _ _ L,M,rfl⟩
theorem Aa{x:dk}(d:o.op=.nilCheck x)(h:(∃b p,ρ x=.ptr b p)\/(∃b v e i p,ρ x=.bR b v e i p)\/∃t,ρ x=.p (.bY t)):bf P o ρ base {v:=ρ x}:=by
 refine bf.same fun H w aa ah β f l k aj=>?_;have c:=k x (by simp[d,g9]);refine⟨f x,?_,c⟩;have j:∃a,f x=.pointer (some a):=by
  rcases h with⟨b,p,hx⟩|⟨b,v,e,i,p,hx⟩|⟨t,hx⟩
  ·have c:=c.1;rw[hx]at c;simp only[au,bG,bK]at c;obtain⟨_,_,_,_,h,_⟩:=c;exact⟨_,h⟩
  ·have c:=c.1;rw[hx]at c;simp only[au,bG,bK]at c;obtain⟨_,_,_,_,h,_⟩:=c;exact⟨_,h⟩
  ·have c:=c.1;rw[hx]at c;simp only[au,aA]at c;obtain⟨_,_,_,_,_,_,h⟩:=c;exact⟨_,h⟩
 obtain⟨a,g⟩:=j;simp[dq,d,g]
end
section
variable{P:ea}{w:dz}{aa ah:Nat->Prop}{β:Bd}{H:Heap}
variable{o:Oper}{ρ:dk->AV}{base:Nat}
open Go.MapKept
def jL:PV->Prop
 | .st _ _=>False
 |_=>True
theorem B2{T:dl}{key:PV}(h:jL key)(k:PV):o7 P T key k=jS key k:=by
 cases key<;>first
  |exact h.elim
  |rfl
theorem Rh{T:dl}{key:PV}(h:jL key)(a:List (PV×PV)):lG P T a key=fA P T a key:=by
 cases key<;>first
  |exact h.elim
  |rfl
theorem wQ{T:dl}{key:PV}{b:dp}(h:eX P T key=true)(c:jL key)(a:aA P w aa key b):∃d,P.underlying T=some d/\IsKey d b:=by
 unfold eX at h
 split at h
 ·split at h
  ·rename_i e;simp at h;subst h;simp only[aA]at a;subst a;exact⟨_,e,by simp[IsKey]⟩
  ·simp at h
 ·simp only[aA]at a;obtain⟨bs,rfl,_⟩:=a;exact⟨_,wF h,by simp[IsKey]⟩
 ·exact c.elim
 ·simp at h
theorem yy{T:dl}{d:en}(j:P.underlying T=some d){key g:PV}{i v':dp}{r:Bool}(h:eX P T key=true)(p:jL key)(c:jS key g=some r)(e:aA P w aa key i)(f:aA P w aa g v'):
 gy d i v'=some r/\(r=true->i=v'):=by
 unfold eX at h
 split at h
 ·split at h
  ·rename_i k;simp at h;subst h;rw[j]at k;cases k;cases g<;>simp only[jS]at c<;>try (simp at c;done)
   split at c
   ·rename_i hk;subst hk;simp at c;subst c;simp only[aA]at e f;subst e;subst f;simp[gy]
   ·simp at c
  ·simp at h
 ·rename_i hs;have:=wF h;rw[j]at this;cases this;cases g<;>simp only[jS]at c<;>try (simp at c;done)
  simp at c;subst c;simp only[aA]at e f;obtain⟨a,rfl,e1⟩:=e;obtain⟨b,rfl,e2⟩:=f;subst e1;subst e2;have n:(ii (fun x:UInt8=>x.toNat) a.data.toList=ii (fun x:UInt8=>x.toNat) b.data.toList)↔a=b:=by
   constructor
   ·intro h;have:=zX h;apply ByteArray.ext;apply cc;exact this
   ·intro h;rw[h]
  by_cases hc:a=b
  ·subst hc;simp[gy,g8]
  ·have l:¬(ii (fun x:UInt8=>x.toNat) a.data.toList=ii (fun x:UInt8=>x.toNat) b.data.toList):=fun h=>hc (n.1 h);have m:(a==b)=false:=by
    cases o:(a==b)with
    |false=>rfl
    |true=>exact(hc ((g8 a b).1 o)).elim
   simp[gy,l,m]
 ·exact p.elim
 ·simp at h
theorem Bq{T:dl}{d:en}(o:P.underlying T=some d){key:PV}{g:dp}(hk:eX P T key=true)(m:jL key)(l:aA P w aa key g):∀(b:List (PV×PV))(a:List eb)(i:Nat)(r:Option PV),cd P w aa b a->fA P T b key=some r->
 (r=none/\gg d g a i=some none)\/∃v j e,r=some v/\gg d g a i=some (some (i+j,e.val))/\a[j]?=some e/\aA P w aa v e.val/\e.key=g/\
  (∀(x:PV)(k:dp),aA P w aa x k->cd P w aa (fW b key x) (a.modify j fun e=>{e with key:=g,val:=k}))
 |[],a,i,r,f,h=>by
  simp only[cd]at f;simp[fA]at h;subst f;subst h;exact .inl ⟨rfl,rfl⟩
 |(s,v')::b,a,i,r,f,h=>by
  simp only[cd]at f;obtain⟨e,rest,rfl,n,p,q⟩:=f;simp only[fA,B2 m]at h
  split at h
  ·rename_i c;simp at h;subst h;obtain⟨g1,g2⟩:=yy o hk m c l n;refine .inr ⟨v',0,e,rfl,by simp[gg,g1],rfl,p,(g2 rfl).symm,fun x k hx=>?_⟩;simp only[fW,c,if_true];simp only[cd];exact⟨_,rest,rfl,l,hx,q⟩
  ·rename_i c;obtain⟨g1,g2⟩:=yy o hk m c l n;rcases Bq o hk m l b rest (i+1) r q h with⟨rfl,f1⟩|⟨v,j,e',rfl,f1,f2,f3,f4,f5⟩
   ·exact .inl ⟨rfl,by simp[gg,g1,f1]⟩
   ·refine .inr ⟨v,j+1,e',rfl,by simp[gg,g1,f1];omega,by simpa using f2,f3,f4,fun x k hx=>?_⟩;simp only[fW,c];rw[if_neg (by simp)];simp only[cd];exact⟨e,_,by simp[List.modify_succ_cons],n,p,f5 x k hx⟩
  ·simp at h
theorem Gx{X:Array dp}{v:dl->PV->PV->Option Bool}(e:Bool)(n:Nat):
 ∀(fs:List ei)(l:List Nat)(b:List PV)(r:Bool)(pre:List dp)(j:List (List dp)),iE P v (fs.map (·.type)) b b=some r->(∀f∈fs,f.name≠ "_" /\sv P f.type=true)->
 (∀(i:Nat)(f:ei),fs[i]?=some f->f.offset=pre.length+(l.take i).sum)->aY P w aa l b j->
 X.toList=pre++j.flatten->(forIn fs j8 (fun f _=>if f.name≠ "_" then(do
  let x<-part f.type X f.offset
  gj e (n+1) f.type x
  pure (ForInStep.yield j8))else pure (ForInStep.yield j8):ei->PUnit->Sem (ForInStep PUnit))).run P w=.ok j8 w
 |[],l,b,r,pre,j,_,_,_,_,_=>by simp
 |f::fs,l,b,r,pre,j,d,q,s,hx,p=>by
  cases b with
  |nil=>simp[iE]at d
  |cons a b=>
   cases l with
   |nil=>simp[aY]at hx
   |cons m l=>
    simp only[hF,iE]at d
    split at d
    case isFalse=>simp at d
    rename_i hk
    split at d
    case h_2=>simp at d
    rename_i H E G y;obtain⟨c,cs,rfl,hc,z,D⟩:=uK hx;obtain⟨B,o⟩:=q f (by simp);have C:f.offset=pre.length:=by simpa using s 0 f (by simp)
    obtain⟨x,t,I⟩:=qd hk.1 hc (pre:=pre) (post:=cs.flatten) (cs:=X) (by rw[p];simp);rw[<-C]at t;have u:(gj e (n+1) f.type x).run P w=.ok () w:=by
     unfold sv at o;unfold gj
     split at o
     ·rename_i k h;simp[dg h]
     ·rename_i h;simp[dg h]
     ·rename_i h;simp[dg h]
     ·cases o
    have F:=Gx e n fs l b E (pre++c) cs y (fun f hf=>q f (by simp[hf])) (by
     intro i g A;have:=s (i+1) g (by simpa using A);rw[this,ik,i0,hD,z];omega) D (by rw[p];simp)
    rw[List.forIn_cons];simp only[B,ne_eq,not_false_eq_true,if_true,ho,t,u,hm,hp];exact F
theorem QK{T:dl}{cj:Array ei}{u:Nat}{fs:List PV}{g:dp}(b:P.underlying T=some (.struct cj))(j:cj.toList.all (fun f=>f.name != "_" &&sv P f.type)=true)(a:(gT P 9 T (.st u fs) (.st u fs)).isSome=true)(d:aA P w aa (.st u fs) g)(e:Bool):
 (gj e 10000 T g).run P w=.ok () w:=by
 obtain⟨r,a⟩:=j7.1 a;unfold gT at a;simp only[b]at a
 split at a
 case isFalse=>simp at a
 rename_i hc;obtain⟨hk,-,-,-⟩:=hc;simp only[aA]at d;obtain⟨l,c,k1,k2,rfl⟩:=d;obtain⟨o,p,s1,s2,q,h,s,k⟩:=tT (P:=P) (T:=T) (u:=u) (n:=cj.size) (by unfold fB;rw[hk,b]);rw[b]at s1;cases s1;rw[k1]at h;cases h;have key:=Gx (w:=w) (aa:=aa) (X:=c.flatten.toArray) e 9998 cj.toList l fs r [] c a (fun f hf=>by
  have:=ip.1 j f hf;simpa using this) (by
   intro i f hf;have hi:i<cj.size:=by
    have:=(hB.1 hf).1;simpa using this
   obtain⟨m,g1,g2,_⟩:=k i hi;rw[ce,g1]at hf;cases hf;simpa using g2) k2 (by simp)
 unfold gj;simp only[ho,dg b,hm];rw[<-Array.forIn_toList];rw[key];simp
theorem AY{T:dl}{u:Nat}{fs:List PV}{g:dp}(p:aA P w aa (.st u fs) g):∀(k:List (PV×PV))(f:List eb)(i:Nat)(r:Option PV),cd P w aa k f->fA P T k (.st u fs)=some r->
 (r=none/\(gi T g f i).run P w=.ok none w/\∀x n born,aA P w aa x n->cd P w aa (fW k (.st u fs) x) (f++[{key:=g,val:=n,born}]))\/∃(v:PV)(j:Nat)(e:eb),r=some v/\(gi T g f i).run P w=.ok (some (i+j,e.val)) w/\aA P w aa v e.val
 |[],f,i,r,m,h=>by
  simp only[cd]at m;simp[fA]at h;subst m;subst h;refine .inl ⟨rfl,by simp[gi],fun x n born hx=>?_⟩;simp only[fW,cd];exact⟨_,[],rfl,p,hx,rfl⟩
 |(y,v')::k,f,i,r,m,h=>by
  simp only[cd]at m;obtain⟨e,rest,rfl,s,t,z⟩:=m;simp only[fA]at h;have q:∀b,o7 P T (.st u fs) y=some b->(hb T g e.key).run P w=.ok b w/\jS (.st u fs) y=some b:=by
   intro b l;simp only[o7]at l
   split at l
   ·rename_i a c A hc;cases a<;>cases c<;>simp at l<;>subst l<;>
    ·obtain⟨d,B,hq⟩:=xu T g e.key;rw[hq];exact⟨xB 9 T _ _ _ A _ _ p s _ B,hc⟩
   ·simp at l
  split at h
  ·rename_i o;simp at h;subst h;obtain⟨g1,g2⟩:=q _ o;exact .inr ⟨v',0,e,rfl,by simp[gi,g1],t⟩
  ·rename_i o;obtain⟨g1,g2⟩:=q _ o;rcases AY p k rest (i+1) r z h with⟨rfl,f1,f2⟩|⟨v,j,e',rfl,f1,f3⟩
   ·refine .inl ⟨rfl,by simp[gi,g1,f1],fun x n born hx=>?_⟩;simp only[fW,g2];rw[if_neg (by simp)];simp only[cd];exact⟨e,_,rfl,s,t,f2 x n born hx⟩
   ·refine .inr ⟨v,j+1,e',rfl,?_,f3⟩;simp[gi,g1,f1];omega
  ·simp at h
theorem Br{T:dl}{cj:Array ei}(c:P.underlying T=some (.struct cj)){b:dp}{a:List eb}{f:Option (Nat×dp)}(h:(gi T b a 0).run P w=.ok f w):(gm T b a).run P w=.ok f w:=by
 unfold gm;simp only[ho,dg c,hm];cases a with
 |nil=>
  simp only[gg];simpa[gi]using h
 |cons e es=>
  have:gg (.struct cj) b (e::es) 0=none:=by simp[gg,gy]
  rw[this];exact h
theorem Aq{T:dl}{key:PV}(h:eX P T key=true)(a:¬jL key):∃u fs cj,key= .st u fs/\P.underlying T=some (.struct cj)/\cj.toList.all (fun f=>f.name != "_" &&sv P f.type)=true/\(gT P 9 T (.st u fs) (.st u fs)).isSome=true:=by
 cases key<;>first
  |exact(a trivial).elim
  |skip
 rename_i u fs;simp only[eX]at h
 split at h
 ·rename_i cj b;rw[db]at h;exact⟨u,fs,cj,rfl,b,h.1,h.2⟩
 ·cases h
theorem JH{T:dl}{key:PV}{g:dp}(hk:eX P T key=true)(f:aA P w aa key g){b:List (PV×PV)}{a:List eb}{r:Option PV}(l:cd P w aa b a)(h:fA P T b key=some r):
 (∀e,(gj e 10000 T g).run P w=.ok () w)/\
 ((r=none/\(gm T g a).run P w=.ok none w)\/∃(v:PV)(j:Nat)(e:eb),r=some v/\(gm T g a).run P w=.ok (some (j,e.val)) w/\aA P w aa v e.val):=by
 by_cases i:jL key
 ·obtain⟨d,c,o⟩:=wQ hk i f;refine⟨fun e=>run_checkKey c o _ 9999,?_⟩;rcases Bq c hk i f b a 0 r l h with⟨rfl,f1⟩|⟨v,j,e,rfl,f1,f2,f3,f4,_⟩
  ·exact .inl ⟨rfl,run_findKey c f1⟩
  ·exact .inr ⟨v,0+j,e,rfl,run_findKey c f1,f3⟩
 ·obtain⟨u,fs,cj,rfl,k,m,n⟩:=Aq hk i;refine⟨fun e=>QK k m n f e,?_⟩;rcases AY f b a 0 r l h with⟨rfl,f1,_⟩|⟨v,j,e,rfl,f1,f3⟩
  ·exact .inl ⟨rfl,Br k f1⟩
  ·exact .inr ⟨v,0+j,e,rfl,Br k f1,f3⟩
theorem Gr{T:dl}{key x:PV}{g i:dp}(d:aA P w aa key g)(hx:aA P w aa x i)(born:Nat):∀(a:List (PV×PV))(c:List eb),jL key->cd P w aa a c->fA P T a key=some none->cd P w aa (fW a key x) (c++[{key:=g,val:=i,born}])
 |[],c,_,b,_=>by
  simp only[cd]at b;subst b;simp only[fW,cd];exact⟨_,[],rfl,d,hx,rfl⟩
 |(n,v')::a,c,f,b,h=>by
  simp only[cd]at b;obtain⟨e,rest,rfl,j,k,l⟩:=b;simp only[fA,B2 f]at h
  split at h
  ·simp at h
  ·rename_i m;simp only[fW,m];rw[if_neg (by simp)];simp only[cd];exact⟨e,_,rfl,j,k,Gr (T:=T) d hx born a rest f l h⟩
  ·simp at h
def sP(ok:Bool)(z:PV):Option PV->PV
 |some v=>if ok then .aE [v,.bool true]else v
 |none=>if ok then .aE [z,.bool false]else z
theorem SH{T:dl}{c E:dl}{x i:dk}{ok:Bool}{key z:PV}{r:Option PV}{k:List (PV×PV)}(D:o.op= .lookup T x i ok)(g:iQ P T=some (c,E))(G:cm P E=some z)(hk:eX P c key=true)(C:fA P c k key=some r)
 {ρc:dk->dp}(B:aA P w aa key (ρc i))(hx:(ρc x=.map none/\k=[])\/∃b a d,ρc x=.map (some b)/\w.heap[b]?=some (.map a d)/\cd P w aa k a.toList):
 ∃p,(dq ρc o).run P w=.ok (.value p) w/\aA P w aa (sP ok z r) p:=by
 have m:P.underlying T=some (.map c E):=by
  unfold iQ at g
  split at g
  ·rename_i F;simp at g;rw[F,g.1,g.2]
  ·simp at g
 obtain⟨u,t,z2⟩:=J2 G;obtain⟨a,s,n⟩:∃a:Array eb,((ρc x=.map none/\a=#[])\/∃b d,ρc x=.map (some b)/\w.heap[b]?=some (.map a d))/\cd P w aa k a.toList:=by
  rcases hx with⟨hx,rfl⟩|⟨b,a,d,hx,h,n⟩
  ·exact⟨#[],.inl ⟨hx,rfl⟩,by simp[cd]⟩
  ·exact⟨a,.inr ⟨b,d,hx,h⟩,n⟩
 obtain⟨l,y⟩:=JH hk B n C
 have q:∀(f:Option (Nat×dp))(v:dp)(b:Bool),(gm c (ρc i) a.toList).run P w= .ok f w->(f=none/\v=u/\b=false\/∃j,f=some (j,v)/\b=true)->
  (dq ρc o).run P w=.ok (.value (if ok then .tuple #[v,.bool b]else v)) w:=by
  intro f v b hf A;simp only[dq,D];refine dX ?_;rcases A with⟨rfl,rfl,rfl⟩|⟨j,rfl,rfl⟩
  ·rcases s with⟨hx,rfl⟩|⟨b,d,hx,h⟩
   ·have hf:(gm c (ρc i) []).run P w=.ok none w:=hf;cases ok<;>simp[gx,dg m,hx,l,hf,t]
   ·cases ok<;>simp[gx,dg m,hx,g7 h,l,hf,t]
  ·rcases s with⟨hx,rfl⟩|⟨b,d,hx,h⟩
   ·have hf:(gm c (ρc i) []).run P w=.ok (some (j,v)) w:=hf;cases ok<;>simp[gx,dg m,hx,l,hf]
   ·cases ok<;>simp[gx,dg m,hx,g7 h,l,hf]
 rcases y with⟨rfl,f1⟩|⟨v,j,e,rfl,f1,f3⟩
 ·refine⟨_,q none u false f1 (.inl ⟨rfl,rfl,rfl⟩),?_⟩;cases ok with
  |true=>simp only[sP,if_true,aA,bp];exact⟨_,⟨_,_,rfl,z2 w aa,_,_,rfl,rfl,rfl⟩,rfl⟩
  |false=>simpa[sP]using z2 w aa
 ·refine⟨_,q _ e.val true f1 (.inr ⟨_,rfl,rfl⟩),?_⟩;cases ok with
  |true=>simp only[sP,if_true,aA,bp];exact⟨_,⟨_,_,rfl,f3,_,_,rfl,rfl,rfl⟩,rfl⟩
  |false=>simpa[sP]using f3
theorem ud{T:dl}{c E:dl}{x g:dk}{ok:Bool}{key z:PV}{r:Option PV}{es:List (PV×PV)}{aj:List (Nat×Obj)}(f:o.op= .lookup T x g ok)(n:iQ P T=some (c,E))(u:cm P E=some z)(hi:ρ g= .p key)(hk:eX P c key=true)(q:fA P c es key=some r)
 (hx:(ρ x=.p .fa/\es=[])\/ρ x=.p (.eE es)\/∃b fz,ρ x=.map b/\(b,.map fz es)∈aj):
 bf P o ρ base {v:=.p (sP ok z r),aj}:=by
 refine bf.same fun H w aa ah β y t i aj=>?_;have a:=(i x (by simp[f,g9])).1;have e:=(i g (by simp[f,g9])).1;rw[hi]at e;simp only[au]at e;obtain⟨j,c1,c2⟩:=SH f n u hk q (ρc:=y) (w:=w) (aa:=aa) e (by
  rcases hx with⟨hx,rfl⟩|hx|⟨b,fz,hx,s⟩
  ·rw[hx]at a;simp only[au,aA]at a;exact .inl ⟨a,rfl⟩
  ·rw[hx]at a;simp only[au,aA]at a;obtain⟨b,d,clock,_,k,l,m⟩:=a;exact .inr ⟨b,d,clock,m,k,l⟩
  ·rw[hx]at a;simp only[au,bG,bK]at a;have h:=aj _ s;obtain⟨d,clock,k1,k2,_⟩:=t.cg b _ h;exact .inr ⟨_,d,clock,a.2.1 ⟨_,h,trivial⟩,k1,k2⟩)
 exact⟨j,c1,by simpa only[au]using c2,by simp[aC]⟩
theorem SA{T:dl}(e:o.op=.makeMap T none):bf P o ρ base {v:=.map base,aP:=[.map false []]}:=by
 intro H w aa ah β i b j _ d;have a:H[base]?=some .hole:=by simpa using d 0 (by simp)
 have g:(dq i o).run P w=.ok (.value (.map (some w.heap.size))) {w with heap:=w.heap.push (.map #[] 0)}:=by
  simp only[dq,e];exact tR (by simp[Instr.makeMap])
 have f:=rV (cap:=0) b a (ob:=.map #[] 0) (o':=.map false [])
  ⟨#[],0,by simp[Bd.at],by simp[cd],by
   simp only[b9,Bd.at,if_true,da,if_false];exact⟨fun h=>i8 _ (b.bM _ h),fun h=>i8 _ (b.dP _ h)⟩⟩ trivial
 refine⟨_,_,_,_,aa,g,.inl rfl,f,?_,?_⟩
 ·simp only[au,bG,bK,ld];exact⟨rfl,fun _=>by simp[Bd.at],fun⟨L,c⟩=>by rw[hC (hB.1 a).1]at c;cases c⟩
 ·simp only[aC,ld];exact⟨_,hC (hB.1 a).1,trivial⟩
theorem BQ(f:bL P w aa β H ah){b:Nat}{o o':Obj}(a:H[b]?=some o)(i:o.live)(j:o'.live)(n:∀v,o.has v->o'.has v)(l:∀L,o≠ .loop L){ob:Go.Obj}
 (_hb:β.ak b<w.heap.size)(e:¬aa (β.ak b)/\¬ah (β.ak b))(aF:bX β H β (H.set b o'))
 (p:eK P {w with heap:=w.heap.setIfInBounds (β.ak b) ob} aa β (H.set b o') ah b o')(q:o'.refs (aG (H.set b o'))):
 bO P ah aa w β H aa {w with heap:=w.heap.setIfInBounds (β.ak b) ob} β (H.set b o'):=by
 refine bO.set f (hB.1 a).1 (fun _ _=>⟨rfl,rfl⟩) (fun _ x=>x) (fun _ x=>.inl x) (fun k hk=>by simpa using f.bM k hk) (by simp)
  (fun k hk _=>?_) (fun _=>.inr ⟨rfl,⟨o,a,i⟩,.inr e.1,e.2⟩) aF p q (fun r v c g=>by rw[a]at c;cases c;exact n v g) (fun L d=>by rw[a]at d;cases d;exact(l L rfl).elim)
 have m:k≠β.ak b:=hk.resolve_right (fun h=>h j);simp[Ne.symm m]
theorem FZ{T t E:dl}{m k x:dk}{b:Nat}{key v:PV}{a:List (PV×PV)}{r:Option PV}(g:o.op= .mapUpdate T m k x\/o.op= .insert T m k x)(z:iQ P T=some (t,E))(ac:ρ m= .map b)(hk:ρ k= .p key)(hx:ρ x= .p v)
 (hf:eX P t key=true)(f:lG P t a key=some r):bf P o ρ base {v:=.p (.aE []),aj:=[(b,.map false a)],aI:=[(b,.map false (fW a key v))]}:=by
 have N:P.underlying T=some (.map t E):=by
  unfold iQ at z
  split at z
  ·rename_i O;simp at z;rw[O,z.1,z.2]
  ·simp at z
 intro H w aa ah β c U Q aj _;have G:H[b]?=some (.map false a):=by simpa using aj
 have M:m∈o.op.operands/\k∈o.op.operands/\x∈o.op.operands:=by
  rcases g with g|g<;>simp[g,g9]
 have l:=(Q m M.1).1;have q:=(Q k M.2.1).1;have B:=(Q x M.2.2).1;rw[ac]at l;rw[hk]at q;rw[hx]at B;simp only[au,bG,bK]at l q B;have l:=l.2.1 ⟨_,G,trivial⟩;obtain⟨i,clock,k1,k2,k3⟩:=U.cg b _ G;have S:¬aa (β.ak b)/\¬ah (β.ak b):=by
  unfold b9 at k3;rw[if_neg (by simp)]at k3;exact k3
 have F:fA P t a key=some r:=by
  by_cases s:jL key
  ·rw[<-Rh s];exact f
  ·obtain⟨u,fs,cj,rfl,_⟩:=Aq hf s;simp only[lG]at f
   split at f
   ·rename_i hq;rw[hq];exact f
   ·cases f
 have K:=(JH hf q k2 F).1 false;have R:β.ak b<w.heap.size:=(cb.1 k1).1;have aF:bX β H β (H.set b (.map false (fW a key v))):=ou G (.inr (.inr (.inl ⟨_,_,_,_,rfl,rfl⟩)))
 have J:∀(y:Array eb)(A:Nat),(gt T (c m) (c k) (c x)).run P w= .ok () {w with heap:=w.heap.setIfInBounds (β.ak b) (.map y A)}->cd P w aa (fW a key v) y.toList->
  ∃n I w' aH aD,(dq c o).run P w=.ok n w'/\(n=.value I\/n=.skip/\I=undef)/\
  bO P ah aa w β H aD w' aH (ba H ([(b,.map false (fW a key v))]++newAt base []))/\au P w' aD aH (ba H ([(b,.map false (fW a key v))]++newAt base [])) (.p (.aE [])) I/\
  aC (aG (ba H ([(b,.map false (fW a key v))]++newAt base []))) (.p (.aE [])):=by
  intro y A af ad;have X:(dq c o).run P w=.ok .skip {w with heap:=w.heap.setIfInBounds (β.ak b) (.map y A)}:=by
   rcases g with g|g<;>simp[dq,g,af]
  have ag:∀D,aa D->({w with heap:=w.heap.setIfInBounds (β.ak b) (.map y A)}:dz).heap[D]?=w.heap[D]?:=by
   intro D ab;have:β.ak b≠D:=fun W=>S.1 (W▸ab);simp[this]
  refine⟨_,_,_,β,aa,X,.inr ⟨rfl,rfl⟩,?_,by simp[au,aA,bp,undef],by simp[aC]⟩;simp only[newAt,hG,ba];exact BQ (o':=.map false (fW a key v)) U G trivial trivial (fun _ h=>h) (fun _ h=>by cases h) R S aF ⟨y,A,by simp[R],cd.mono (fun _ x=>x) ag _ _ ad,k3⟩ trivial
 by_cases s:jL key
 case neg=>
  obtain⟨u,fs,cj,rfl,O,_,_⟩:=Aq hf s;have ae:r=none:=by
   simp only[lG]at f
   split at f
   ·simpa using f.symm
   ·cases f
  subst ae;rcases AY q a i.toList 0 none k2 F with⟨_,f1,f2⟩|⟨v',j,e,V,_⟩
  ·have C:=Br O f1;refine J (i.push {key:=c k,val:=c x,born:=clock}) (clock+1) ?_ ?_
   ·rw[l];simp only[gt,ho,dg N,hm,g7 k1,K,C,run_setObj_map _ k1]
   ·rw[cx];exact f2 v (c x) clock B
  ·cases V
 obtain⟨d,L,Y⟩:=wQ hf s q;rcases Bq L hf s q a i.toList 0 r k2 F with⟨rfl,f1⟩|⟨v',j,e,rfl,f1,f2,f3,f4,f5⟩
 ·have C:=run_findKey (w:=w) L f1;refine J (i.push {key:=c k,val:=c x,born:=clock}) (clock+1) ?_ ?_
  ·rw[l];simp only[gt,ho,dg N,hm,g7 k1,K,C,run_setObj_map _ k1]
  ·rw[cx];exact Gr (T:=t) q B clock a i.toList s k2 F
 ·have C:=run_findKey (w:=w) L f1;have Z:i[j]?=some e:=by simpa using f2
  refine J (i.modify j fun e=>{e with key:=c k,val:=c x}) clock ?_ ?_
  ·rw[l];simp only[gt,ho,dg N,hm,g7 k1,K,C];simp only[j1,Z,Option.map_some,Option.getD_some,f4,run_keyThatStays Y,hm,run_setObj_map _ k1]
  ·rw[Array.toList_modify];exact f5 v (c x) B
theorem vY{v:PV}:mP v=true->jL v:=by
 cases v<;>simp[mP,jL]
theorem Qb{b:Nat}{o o':Obj}(e:H[b]?=some o)(i:o.tI)(d:o'.tI):bX β H β (H.set b o'):=by
 have g:b<H.length:=(hB.1 e).1;have a:∀x,x≠b->(H.set b o')[x]?=H[x]?:=fun x hx=>hK (Ne.symm hx);have c:(H.set b o')[b]?=some o':=hC g;refine⟨?_,?_,?_,?_,?_⟩
 ·rintro x _ ⟨fz,t,h⟩;refine⟨?_,rfl⟩
  by_cases hx:x=b
  ·subst hx;rw[c]at h;cases h;exact d.elim
  ·rw[a x hx]at h;exact⟨fz,t,h⟩
 ·rintro x _ ⟨fz,t,h⟩;refine⟨?_,rfl⟩
  by_cases hx:x=b
  ·subst hx;rw[c]at h;cases h;exact d.elim
  ·rw[a x hx]at h;exact⟨fz,t,h⟩
 ·rintro x _ ⟨l,h,j⟩;refine⟨?_,rfl⟩
  by_cases hx:x=b
  ·subst hx;exact⟨o,e,i⟩
  ·rw[a x hx]at h;exact⟨l,h,j⟩
 ·intro x ar ai k f _ h
  by_cases hx:x=b
  ·subst hx;unfold et at h;rw[c]at h;cases h;exact d.elim
  ·unfold et at h⊢;rw[a x hx]at h;exact⟨k,f,h,i7 _,Iff.rfl,fun _=>⟨rfl,rfl⟩⟩
 ·rintro x _ ⟨L,h⟩;refine⟨?_,rfl⟩
  by_cases hx:x=b
  ·subst hx;rw[c]at h;cases h;exact d.elim
  ·rw[a x hx]at h;exact⟨L,h⟩
theorem Fb:∀{b:List (PV×PV)}{a:List eb},cd P w aa b a->bp P w aa (b.map (·.1)) (a.map (·.key))/\br P w aa β H (b.map fun e=>.p e.2) (a.map (·.val))
 |[],a,h=>by
  simp only[cd]at h;subst h;simp[bp,br]
 |(k,v)::r,a,h=>by
  simp only[cd]at h;obtain⟨e,rest,rfl,c,d,f⟩:=h;obtain⟨i1,i2⟩:=Fb f;simp only[hF,bp,br];exact⟨⟨_,_,rfl,c,i1⟩,⟨_,_,rfl,by simpa only[au]using d,i2⟩⟩
theorem Qe{b:Nat}{d:Obj}{ks:List PV}{vs:List AV}(h:bL P w aa β H ah)(g:H[b]?=some d)(a:rC d=some (ks,vs)):
 d.tI/\(∃c f,w.heap[β.ak b]?=some (.map c f)/\bp P w aa ks (c.toList.map (·.key))/\br P w aa β H vs (c.toList.map (·.val))/\b9 aa β ah false b)/\aQ (aG H) vs:=by
 cases d<;>simp only[rC]at a<;>try (cases a;done)
 case map fz es=>
  cases fz
  case true=>simp at a
  simp only[Option.some.injEq,Prod.mk.injEq]at a;obtain⟨rfl,rfl⟩:=a;obtain⟨c,f,k1,k2,k3⟩:=h.cg b _ g;obtain⟨i1,i2⟩:=Fb (β:=β) (H:=H) k2;exact⟨trivial,⟨c,f,k1,i1,i2,k3⟩,cq.2 fun v i=>by obtain⟨e,_,rfl⟩:=i4.1 i;trivial⟩
 case de j k=>
  simp only[Option.some.injEq,Prod.mk.injEq]at a;obtain⟨rfl,rfl⟩:=a;exact⟨trivial,h.cg b _ g,h.refs b _ g⟩
theorem zI{T:dl}{d:en}(n:P.underlying T=some d){key:PV}{o:dp}(hk:eX P T key=true)(g:jL key)(m:aA P w aa key o):∀(ks:List PV)(vs:List AV)(c:List eb)(i:Nat)(r:Option AV),bp P w aa ks (c.map (·.key))->br P w aa β H vs (c.map (·.val))->kj P T ks vs key=some r->
 (r=none/\gg d o c i=some none)\/∃(v:AV)(j:Nat)(e:eb),r=some v/\gg d o c i=some (some (i+j,e.val))/\au P w aa β H v e.val/\v∈vs
 |[],vs,c,i,r,f,k,h=>by
  cases c with
  |nil=>
   cases vs with
   |nil=>simp[kj]at h;subst h;exact .inl ⟨rfl,rfl⟩
   |cons a b=>simp[kj]at h
  |cons a b=>simp[bp]at f
 |u::ks,vs,c,i,r,f,k,h=>by
  cases c with
  |nil=>simp[bp]at f
  |cons e rest=>
   cases vs with
   |nil=>simp[br]at k
   |cons v' vs=>
    simp only[hF,bp,br,List.cons.injEq]at f k;obtain⟨_,_,⟨rfl,rfl⟩,p,q⟩:=f;obtain⟨_,_,⟨rfl,rfl⟩,s,t⟩:=k;simp only[kj,B2 g]at h
    split at h
    ·rename_i l;simp at h;subst h;obtain⟨g1,g2⟩:=yy n hk g l m p;exact .inr ⟨v',0,e,rfl,by simp[gg,g1],s,List.mem_cons_self⟩
    ·rename_i l;obtain⟨g1,g2⟩:=yy n hk g l m p;rcases zI n hk g m ks vs rest (i+1) r q t h with⟨rfl,f1⟩|⟨v,j,e',rfl,f1,f3,f4⟩
     ·exact .inl ⟨rfl,by simp[gg,g1,f1]⟩
     ·exact .inr ⟨v,j+1,e',rfl,by simp[gg,g1,f1];omega,f3,hJ _ f4⟩
    ·simp at h
def pB(ok:Bool)(z:PV):Option AV->AV
 |some v=>if ok then .aE [v,.p (.bool true)]else v
 |none=>.p (if ok then .aE [z,.bool false]else z)
theorem E7{T:dl}{f E:dl}{x k:dk}{ok:Bool}{key z:PV}{r:Option AV}{b:Nat}{ks:List PV}{vs:List AV}(i:o.op= .lookup T x k ok)(c:iQ P T=some (f,E))(D:cm P E=some z)(hi:ρ k= .p key)(hk:eX P f key=true)(n:mP key=true)(B:kj P f ks vs key=some r)
 (hx:ρ x=.map b):bf P o ρ base {v:=pB ok z r,aj:=[(b,.de ks vs)]}:=by
 refine bf.same fun H w aa ah β G s t aj=>?_;have a:=(t x (by simp[i,g9])).1;have g:=(t k (by simp[i,g9])).1;rw[hi]at g;simp only[au]at g;rw[hx]at a;simp only[au,bG,bK]at a;have l:H[b]?=some (.de ks vs):=by simpa using aj
 obtain⟨y,clock,k1,k2,k3,_⟩:=s.cg b _ l;have hrefs:aQ (aG H) vs:=s.refs b _ l;have a:=a.2.1 ⟨_,l,trivial⟩;have q:P.underlying T=some (.map f E):=by
  unfold iQ at c
  split at c
  ·rename_i C;simp at c;rw[C,c.1,c.2]
  ·simp at c
 obtain⟨u,F,z2⟩:=J2 D;obtain⟨d,h,A⟩:=wQ hk (vY n) g;have m:∀e,(gj e 10000 f (G k)).run P w=.ok () w:=fun e=>run_checkKey h A _ 9999;rcases zI h hk (vY n) g ks vs y.toList 0 r k2 k3 B with⟨rfl,f1⟩|⟨v,j,e,rfl,f1,f3,f4⟩
 ·have hf:=run_findKey (w:=w) h f1;refine⟨if ok then .tuple #[u,.bool false]else u,?_,?_,by cases ok<;>simp[pB,aC]⟩
  ·simp only[dq,i];refine dX ?_;cases ok<;>simp[gx,dg q,a,g7 k1,m,hf,F]
  ·cases ok with
   |true=>simp only[pB,if_true,au,aA,bp];exact⟨_,⟨_,_,rfl,z2 w aa,_,_,rfl,rfl,rfl⟩,rfl⟩
   |false=>simpa[pB,au]using z2 w aa
 ·have hf:=run_findKey (w:=w) h f1;refine⟨if ok then .tuple #[e.val,.bool true]else e.val,?_,?_,?_⟩
  ·simp only[dq,i];refine dX ?_;cases ok<;>simp[gx,dg q,a,g7 k1,m,hf]
  ·cases ok with
   |true=>simp only[pB,if_true,au,br,aA];exact⟨_,⟨_,_,rfl,f3,_,_,rfl,rfl,rfl⟩,rfl⟩
   |false=>simpa[pB]using f3
  ·have:=cq.1 hrefs v f4;cases ok<;>simp[pB,aC,aQ,this]
theorem Fa{w:dz}{aa:Nat->Prop}{k:PV}{x:dp}:∀{a:List PV}{l:List dp},bp P w aa a l->aA P w aa k x->bp P w aa (a++[k]) (l++[x])
 |[],l,h,hx=>by simp only[bp]at h;subst h;simp only[h7,bp];exact⟨_,_,rfl,hx,rfl⟩
 |v::a,l,h,hx=>by
  simp only[bp]at h;obtain⟨y,d,rfl,b,c⟩:=h;simp only[List.cons_append,bp];exact⟨_,_,rfl,b,Fa c hx⟩
theorem vX{T i E:dl}{m k x:dk}{b:Nat}{key:PV}{u:Obj}{ks:List PV}{vs:List AV}(c:o.op= .mapUpdate T m k x\/o.op= .insert T m k x)(g:iQ P T=some (i,E))(ab:ρ m= .map b)(hk:ρ k= .p key)
 (hf:eX P i key=true)(O:rC u=some (ks,vs))(F:mP key=true)(Z:kj P i ks vs key=some none):bf P o ρ base {v:=.p (.aE []),aj:=[(b,u)],aI:=[(b,.de (ks++[key]) (vs++[ρ x]))]}:=by
 have ac:P.underlying T=some (.map i E):=by
  unfold iQ at g
  split at g
  ·rename_i ae;simp at g;rw[ae,g.1,g.2]
  ·simp at g
 intro H w aa ah β a G B aj _;have s:H[b]?=some u:=by simpa using aj
 have A:m∈o.op.operands/\k∈o.op.operands/\x∈o.op.operands:=by
  rcases c with c|c<;>simp[c,g9]
 have n:=(B m A.1).1;have q:=(B k A.2.1).1;obtain⟨M,N⟩:=B x A.2.2;rw[ab]at n;rw[hk]at q;simp only[au,bG,bK]at n q;obtain⟨r,⟨l,clock,k1,k2,k3,k4⟩,af⟩:=Qe G s O;have n:=n.2.1 ⟨_,s,r⟩;have D:¬aa (β.ak b)/\¬ah (β.ak b):=by
  unfold b9 at k4;rw[if_neg (by simp)]at k4;exact k4
 obtain⟨d,z,W⟩:=wQ hf (vY F) q;have R:(gj false 10000 i (a k)).run P w=.ok () w:=run_checkKey z W _ 9999;have C:β.ak b<w.heap.size:=(cb.1 k1).1;have Q:b<H.length:=(hB.1 s).1;have aF:bX β H β (H.set b (.de (ks++[key]) (vs++[ρ x]))):=Qb s r trivial;rcases zI z hf (vY F) q ks vs l.toList 0 none k2 k3 Z with⟨_,f1⟩|⟨v',j,e,L,_⟩
 case inr=>cases L
 have V:=run_findKey (w:=w) z f1;have ad:(gt T (a m) (a k) (a x)).run P w=.ok () {w with heap:=w.heap.setIfInBounds (β.ak b) (.map (l.push {key:=a k,val:=a x,born:=clock}) (clock+1))}:=by
  rw[n];simp only[gt,ho,dg ac,hm,g7 k1,R,V,run_setObj_map _ k1]
 have U:(dq a o).run P w=.ok .skip {w with heap:=w.heap.setIfInBounds (β.ak b) (.map (l.push {key:=a k,val:=a x,born:=clock}) (clock+1))}:=by
  rcases c with c|c<;>simp[dq,c,ad]
 have I:∀t,aa t->({w with heap:=w.heap.setIfInBounds (β.ak b) (.map (l.push {key:=a k,val:=a x,born:=clock}) (clock+1))}:dz).heap[t]?=w.heap[t]?:=by
  intro t Y;have:β.ak b≠t:=fun S=>D.1 (S▸Y);simp[this]
 have X:∀y,aG H y->aG (H.set b (.de (ks++[key]) (vs++[ρ x]))) y:=by
  rintro⟨y,v⟩ ⟨ai,ag,f⟩
  by_cases K:b=y
  ·subst K;exact⟨.de (ks++[key]) (vs++[ρ x]),by simp only;rw[hC Q],trivial⟩
  ·exact⟨ai,by simp only;rw[hK K];exact ag,f⟩
 have J:aQ (aG H) (vs++[ρ x]):=cq.2 fun v f=>by
  rcases ix.1 f with f|f
  ·exact cq.1 af v f
  ·rw[h4.1 f];exact N
 refine⟨_,_,_,β,aa,U,.inr ⟨rfl,rfl⟩,?_,by simp[au,aA,bp,undef],by simp[aC]⟩;simp only[newAt,hG,ba];refine BQ (o':=.de (ks++[key]) (vs++[ρ x])) G s (by cases u<;>first|trivial|exact r.elim) trivial (fun _ _=>trivial) (fun _ h=>by rw[h]at r;exact r.elim) C D aF ⟨l.push {key:=a k,val:=a x,born:=clock},clock+1,by simp[C],?_,?_,k4⟩ (aQ.mono X _ J)
 ·rw[cx,hM];exact bp.mono (fun _ x=>x) I _ _ (Fa k2 q)
 ·rw[cx,hM];refine br.mono (fun _ x=>x) I aF _ _ J (n8 k3 ?_);simp only[hF,hV,br];exact⟨_,_,rfl,M,rfl⟩
theorem yz{c:dl}{b:Nat}{key:PV}{x:AV}{a:Obj}{K:aR->Prop}(h:nX P c b key x a K):∃ks vs,rC a=some (ks,vs)/\mP key=true/\kj P c ks vs key=some none/\K {v:=.p (.aE []),aj:=[(b,a)],aI:=[(b,.de (ks++[key]) (vs++[x]))]}:=by
 unfold nX at h
 split at h
 ·rename_i ks vs d;exact⟨ks,vs,d,h⟩
 ·exact h.elim
end
section
variable{P:ea}{w:dz}{aa ah:Nat->Prop}{β:Bd}{H:Heap}
variable{o:Oper}{ρ:dk->AV}{base:Nat}
theorem Rz(bs:ByteArray):fR (iA bs)=bs:=by
 unfold fR iA;apply ByteArray.ext;apply cc;simp only[hW];have:(kc∘fun x:UInt8=>x.toNat)=id:=by funext x;simp
 rw[this];simp
theorem UZ{T:dl}{x:dk}{s:List Nat}(d:o.op=.range T x)(hx:ρ x=.p (.str s))(e:ib P T=true):bf P o ρ base {v:=.ptr base [],aP:=[.dh s 0]}:=by
 intro H w aa ah β k b j _ f;have c:H[base]?=some .hole:=by simpa using f 0 (by simp)
 have a:=(j x (by simp[d,g9])).1;rw[hx]at a;simp only[au,aA]at a;obtain⟨bs,e1,e2⟩:=a;have i:(dq k o).run P w=.ok (.value (.pointer (some ⟨w.heap.size,0,none⟩))) {w with heap:=w.heap.push (.stringIter bs 0)}:=by
  simp only[dq,d,e1];exact tR (by simp[Instr.range,dg (wF e)])
 have g:=rV (cap:=0) b c (ob:=.stringIter bs 0) (o':=.dh s 0)
  ⟨bs,by simp[Bd.at],e2,by
   simp only[b9,Bd.at,if_true,da,if_false];exact⟨fun h=>i8 _ (b.bM _ h),fun h=>i8 _ (b.dP _ h)⟩⟩ trivial
 refine⟨_,_,_,_,aa,i,.inl rfl,g,?_,?_⟩
 ·simp only[au,bG,bK,ld];exact⟨rfl,_,_,0,rfl,rfl,fun _=>by simp[Bd.at]⟩
 ·simp only[aC,ld];exact⟨_,hC (hB.1 c).1,trivial⟩
theorem azH{it:dk}{b:Nat}{s:List Nat}{pos:Nat}(g:o.op= .next it true)(hx:ρ it= .ptr b []):
 (pos<s.length->bf P o ρ base {v:=.p (.aE [.bool true,.int .i64 pos,.int .i32 (ht (fR s) pos).1]),aj:=[(b,.dh s pos)],aI:=[(b,.dh s (pos+(ht (fR s) pos).2))]})/\
 (¬pos<s.length->bf P o ρ base {v:=.p (.aE [.bool false]),aj:=[(b,.dh s pos)]}):=by
 have key:∀{H:Heap}{w:dz}{aa ah:Nat->Prop}{β:Bd}{e:dk->dp},bL P w aa β H ah->(∀x∈o.op.operands,au P w aa β H (ρ x) (e x)/\aC (aG H) (ρ x))->H[b]?=some (.dh s pos)->
  e it=.pointer (some ⟨β.ak b,0,none⟩)/\∃bs:ByteArray,w.heap[β.ak b]?=some (.stringIter bs pos)/\s=iA bs/\(¬aa (β.ak b)/\¬ah (β.ak b)):=by
  intro H w aa ah β e d f a;have c:=(f it (by simp[g,g9])).1;rw[hx]at c;simp only[au,bG,bK]at c;obtain⟨_,ak,off,t,m,k,n⟩:=c;simp[fK]at k;subst k;obtain⟨rfl,rfl⟩:=n (.inr ⟨_,_,a⟩);obtain⟨bs,k1,k2,k3⟩:=d.cg b _ a;unfold b9 at k3;rw[if_neg (by simp)]at k3;exact⟨m,bs,k1,k2,k3⟩
 constructor
 ·intro i H w aa ah β e d f aj _;have a:H[b]?=some (.dh s pos):=by simpa using aj
  obtain⟨c,bs,k1,rfl,k3⟩:=key d f a;have j:pos<bs.size:=by simpa[iA]using i
  have l:β.ak b<w.heap.size:=(cb.1 k1).1;rw[Rz];have r:(dq e o).run P w=.ok (.value (.tuple #[.bool true,goInt pos,.int .i32 (ht bs pos).1])) {w with heap:=w.heap.setIfInBounds (β.ak b) (.stringIter bs (pos+(ht bs pos).2))}:=by
   simp only[dq,g,c];refine tR ?_;simp[g0,getObj,setObj,hr,k1,hn,j]
  have aF:bX β H β (H.set b (.dh (iA bs) (pos+(ht bs pos).2))):=ou a (.inr (.inr (.inr ⟨_,_,_,rfl,rfl⟩)));have q:=BQ (o':=.dh (iA bs) (pos+(ht bs pos).2)) (ob:=.stringIter bs (pos+(ht bs pos).2)) d a trivial trivial (fun _ h=>h) (fun _ h=>by cases h) l k3 aF
   ⟨bs,by simp[l],rfl,by unfold b9;rw[if_neg (by simp)];exact k3⟩ trivial
  refine⟨_,_,_,β,aa,r,.inl rfl,?_,?_,by simp[aC]⟩
  ·simpa only[newAt,hG,ba]using q
  ·simp only[au,aA,bp];exact⟨_,⟨_,_,rfl,rfl,_,_,rfl,rfl,_,_,rfl,rfl,rfl⟩,rfl⟩
 ·intro i;refine bf.same fun H w aa ah β e d f aj=>?_;have a:H[b]?=some (.dh s pos):=by simpa using aj
  obtain⟨c,bs,k1,rfl,k3⟩:=key d f a;have j:¬pos<bs.size:=by simpa[iA]using i
  refine⟨.tuple #[.bool false],?_,by simp only[au,aA,bp];exact⟨_,⟨_,_,rfl,rfl,rfl⟩,rfl⟩,by simp[aC]⟩;simp only[dq,g,c];refine dX ?_;simp[g0,getObj,hr,k1,hn,j]
theorem U0{T u:dl}{x:dk}{f:Nat}{fs:Array ei}{t g:PV}{F:dl}(h:o.op= .field T x f)(hk:kindOf P T= .agg u)(b:P.underlying T=some (.struct fs))(hx:ρ x= .p t)(hs:aJ t= .agg u)(e:(cj t)[f]?=some g)(q:(iY P u)[f]?=some F)(r:kindOf P F=aJ g):
 bf P o ρ base {v:=.p g}:=by
 refine bf.same fun H w aa ah β K E z _=>?_;have a:=(z x (by simp[h,g9])).1;rw[hx]at a;simp only[au]at a;cases t<;>simp[aJ]at hs;rename_i u' m;subst hs;simp only[cj]at e;simp only[aA]at a;obtain⟨l,d,k1,k2,k3⟩:=a;obtain⟨D,G,s1,s2,I,j,J,A⟩:=tT (P:=P) (T:=T) (u:=u') (n:=fs.size) (by unfold fB;rw[hk,b]);rw[b]at s1;cases s1;rw[k1]at j;cases j;have s:bF P w aa ⟨id,id⟩ [] l (m.map .p) d:=nh.2 k2;obtain⟨pre,c,post,e1,e2,e3,e4,e5,_⟩:=so (f:=.p g) (i:=f) s (by simp[e]);simp only[bc]at e5;obtain⟨C,g1,g2,g3,g4,g5⟩:=A f (by omega);rw[q]at g5;cases g5;obtain⟨y,k,B⟩:=qd r e5 (pre:=pre) (post:=post) (cs:=d.flatten.toArray) (by simpa using e1);refine⟨y,?_,by simpa only[au]using B,by simp[aC]⟩;simp only[dq,h,k3];refine dX ?_;rw[e2,<-g2]at k;simp only[Instr.field,ho,dg b,hm,g1];simp[asAgg,k]
theorem Sg{T u:dl}{n:Nat}{x k:dk}{Q:eo}{i:Int}{a:List PV}{g:PV}{F:dl}(j:o.op= .index T x k)(B:gJ P T=some (u,n))(hx:ρ x= .p (.st u a))(hi:ρ k= .p (.int Q i))
 (A:0<=i)(K:i.toNat<n)(h:(iY P u)[i.toNat]?=some F)(G:a[i.toNat]?=some g)(I:kindOf P F=aJ g):bf P o ρ base {v:=.p g}:=by
 refine bf.same fun H w aa ah β U S t _=>?_;have b:=(t x (by simp[j,g9])).1;have d:=(t k (by simp[j,g9])).1;rw[hx]at b;rw[hi]at d;simp only[au,aA]at b d;obtain⟨l,m,k1,k2,k3⟩:=b;obtain⟨e,s,hk,r,L⟩:=sd B;rw[k1]at r;cases r;have C:F=e:=by
  obtain⟨E,_,_⟩:=Ao hk;have D:(P.info? u).map (fun i:TypeInfo=>i.desc)=some (.array n e):=by rw[E,<-z6,s]
  unfold iY at h;rw[D]at h;have q:(hE n e)[i.toNat]?=some F:=h;rw[List.getElem?_replicate,if_pos K]at q;exact(Option.some.inj q).symm
 subst C;have M:bF P w aa ⟨id,id⟩ [] (hE n (P.cellsOf F)) (a.map .p) m:=nh.2 k2;obtain⟨pre,c,post,e1,e2,e3,e4,e5,_⟩:=so (f:=.p g) (i:=i.toNat) M (by simp[G]);simp only[bc]at e5;obtain⟨y,z,R⟩:=qd I e5 (pre:=pre) (post:=post) (cs:=m.flatten.toArray) (by simpa using e1);have N:((hE n (P.cellsOf F)).take i.toNat).sum=i.toNat*P.cellsOf F:=by rw[List.take_replicate,Nat.min_eq_left (by omega),List.sum_replicate_nat]
 have O:(sizeOf F).run P w=.ok (P.cellsOf F) w:=by
  cases hi:P.info? F with
  |none=>simp[Program.cellsOf,hi]at L
  |some i=>simp[sizeOf,typeInfo,hi,Program.cellsOf]
 refine⟨y,?_,by simpa only[au]using R,by simp[aC]⟩;simp only[dq,j,k3,d];refine dX ?_;have J:i<(n:Int):=by omega
 rw[e2,N]at z;simp only[Instr.index,asIntOf,ho,hp,dg s,hm];simp[A,J,O,z]
theorem F9{k:eo}{f:Bool}{ρc:dk->dp}:∀(l:List dk)(a n:Int),lA k f (l.map ρ) a=some n->(∀x∈l,au P w aa β H (ρ x) (ρc x))->
 ((l.map ρc).foldlM (if f then fd else fb) (.int k a)).run P w=.ok (.int k n) w
 |[],a,n,h,_=>by simp[lA]at h;subst h;simp
 |x::l,a,n,h,g=>by
  simp only[hF]at h;unfold lA at h
  split at h
  ·rename_i e;cases e
  ·rename_i j b r a' e;simp at e;obtain⟨e1,rfl⟩:=e
   split at h
   case isFalse=>simp at h
   rename_i hk;subst hk;have d:=g x (by simp);rw[e1]at d;simp only[au,aA]at d;have c:=F9 l _ n h (fun y i=>g y (by simp[i]));simp only[hF,List.foldlM_cons,ho,d];cases f with
   |true=>simp only[if_true,fd,hp,hm]at c⊢;exact c
   |false=>simp only[da,if_false,fb,hp,hm]at c⊢;exact c
  ·simp at h
theorem HF{c:Call}{isMax:Bool}{k:eo}{a n:Int}{r:List AV}(m:o.op= .call c)(hc:c.callee= .builtin (if isMax then .max else .min))(b:c.args.toList.map ρ= .p (.int k a)::r)(h:lA k isMax r a=some n):
 bf P o ρ base {v:=.p (.int k n)}:=by
 obtain⟨x,l,i⟩:∃x l,c.args.toList=x::l:=by
  cases s:c.args.toList with
  |nil=>rw[s]at b;simp at b
  |cons x l=>exact⟨x,l,rfl⟩
 rw[i]at b;simp at b;obtain⟨hx,rfl⟩:=b;have g:c.args=(x::l).toArray:=by apply cc;simpa using i
 have j:∀y∈x::l,y∈o.op.operands:=by
  intro y f;rw[m];simp only[g9,ge,hc,g];simpa using f
 refine bf.same fun H w aa ah β t u q _=>⟨.int k n,?_,by simp[au,aA],by simp[aC]⟩
 have d:=(q x (j x (by simp))).1;rw[hx]at d;simp only[au,aA]at d;have e:=F9 (ρc:=t) l a n h (fun y f=>(q y (j y (by simp[f]))).1);simp only[dq,m,resolve,hc,g];cases isMax with
 |true=>
  simp only[if_true]at e⊢;simp[invoke,builtin,fv,d,e]
 |false=>
  simp only[da,if_false]at e⊢;simp[invoke,builtin,fm,d,e]
theorem azD{c:Call}{d x:dk}{sz b ar off len:Nat}{k:AK}{f g:List AV}{H0:Heap}(V:o.op= .call c)(hc:c.callee= .builtin .copy)(Q:c.args.toList=[d,x])(av:c.argTypes.size=2)(t:cr P (c.argTypes.getD 0 0)=some sz)
 (ad:ρ d=.sl b ar sz off len)(hx:gv H0 (ρ x)=some g)(aq:eC P sz g)(hk:k≠.frozen)(G:off+len<=f.length)(C:¬cU k f):
 bf P o ρ base {v:=.p (.int .i64 (min g.length len:Nat)),aj:=(b,.arr k ar sz f)::dj H0 (ρ x),aI:=[(b,.arr k ar sz (f.take off++g.take (min g.length len)++f.drop (off+min g.length len)))]}:=by
 obtain⟨T,X,O⟩:∃T X,c.argTypes=#[T,X]:=by
  obtain⟨l,G⟩:∃l,l=c.argTypes.toList:=⟨_,rfl⟩
  have s:l.length=2:=by rw[G];simpa using av
  match l,s with
  |[a,b],_=>exact⟨a,b,by apply cc;simp[<-G]⟩
 have I:d∈o.op.operands/\x∈o.op.operands:=by
  have ac:c.args=#[d,x]:=by apply cc;simpa using Q
  rw[V];simp[g9,ge,hc,ac]
 have e1:c.argTypes.getD 0 0=T:=by rw[O];rfl
 rw[e1]at t;obtain⟨e,i,t⟩:=jE t;intro H w aa ah β ab D M aj _;have r:H[b]?=some (.arr k ar sz f):=aj (b,_) (by simp);have j:=(M d I.1).1;rw[ad]at j;simp only[au,bG,bK]at j;obtain⟨_,_,j⟩:=j.2 k f r;have j:=j C;rcases D.cg b _ r with hold|⟨cs,E,aE,rest,k1,k2,k3,k4,k5,k6,k7,k8⟩
 ·exact(C hold).elim
 have S:¬aa (β.ak b)/\¬ah (β.ak b):=by
  unfold b9 at k7;rw[if_neg (by simpa using hk)]at k7;exact k7
 obtain⟨aD,ax,ay,az,aB⟩:=uD (nW hx (fun p am=>aj p (hJ _ am))) D (M x I.2).1 (M x I.2).2 aq;obtain⟨n,U⟩:∃n,n=min g.length len:=⟨_,rfl⟩
 rw[<-U];have Z:=aB w rfl n (by omega);obtain⟨y,m,z,g1,g2,g3,g4,g5⟩:=jj ax 0 n (by omega);have aw:y=[]:=by have:=(fw g4).1;simpa using this
 subst aw;have ai:aD.take n=m:=by
  have:=(fw g2).1;rw[g1];simp at this⊢;rw[List.take_left' (by omega)]
 rw[ai]at Z;simp only[h8]at g2;obtain⟨a,N,q,f1,f2,f3,f4,f5⟩:=jj k2 off n (by omega);have J:m.flatten.length=n*sz:=by have:=(fw g2).2;rw[this];congr 1;simp;omega
 have K:N.flatten.length=n*sz:=by have:=(fw f2).2;rw[this];congr 1;simp;omega
 have R:cs.toList=a.flatten++N.flatten++(q.flatten++rest):=by rw[k3,f1];simp
 have Y:cs.size=a.flatten.length+N.flatten.length+(q.flatten++rest).length:=by
  have:=congrArg h6 R;simp only[hD,ck]at this;rw[this,hD]
 have L:=em P (β.ak b) (off*sz) E m.flatten 0 cs w k1 (by rw[Y,f3,J,K];simp only[jp];exact js _ _) (uJ g2);simp only[jp]at L;have aP:cs.toList.take (off*sz)++m.flatten++cs.toList.drop (off*sz+m.flatten.length)=a.flatten++m.flatten++(q.flatten++rest):=by
  rw[R,<-f3,J,<-K];exact z7 _ _ _ _
 rw[aP]at L;have ao:(e9 c.argTypes o.type #[ab d,ab x]).run P w=.ok (goInt n) (w.setRow (β.ak b) (a.flatten++m.flatten++(q.flatten++rest)).toArray):=by
  rw[O,j];have ak:Nat.min g.length len=n:=U.symm;have aH:∀(p:Option Addr)(n c:Nat),fH (.slice p n c)=pure n:=fun _ _ _=>rfl;simp[e9,dg t.fT,az,ak,t.run,Z,L]
 have B:(f.take off++g.take n++f.drop (off+n)).length=f.length:=by simp;omega
 have aF:bX β H β (H.set b (.arr k ar sz (f.take off++g.take n++f.drop (off+n)))):=ou r (.inr (.inl ⟨_,_,_,_,_,rfl,rfl,B.symm⟩));have ap:∀A,aa A->(w.setRow (β.ak b) (a.flatten++m.flatten++(q.flatten++rest)).toArray).heap[A]?=w.heap[A]?:=fun A ag=>ec w _ A _ (fun F=>S.1 (F▸ag));have hrefs:aQ (aG H) (f.take off++g.take n++f.drop (off+n)):=by
  have W:=cq.1 (D.refs b _ r);refine ji (ji ?_ ?_) ?_
  ·rw[cq];exact fun v u=>W v (hL u)
  ·rw[cq];exact fun v u=>cq.1 ay v (hL u)
  ·rw[cq];exact fun v u=>W v (hR u)
 have ae:=lD r (o:=.arr k ar sz (f.take off++g.take n++f.drop (off+n))) (fun _ h=>h);have al:¬cU k (f.take off++g.take n++f.drop (off+n)):=fun h=>C ⟨h.1,by have s:=h.2;rw[<-hT]at s⊢;rw[B]at s;exact s⟩;have an:=pC D r C (o':=.arr k ar sz (f.take off++g.take n++f.drop (off+n))) al (fun _ h=>h) k1 (new:=(a.flatten++m.flatten++(q.flatten++rest)).toArray) S aF
  (.inr ⟨_,E,a++m++q,rest,ed w _ _ _ E _ k1,by
   refine Row.mono (fun _ x=>x) ap aF hrefs (kq.2 ⟨_,_,rfl,kq.2 ⟨_,_,rfl,f4,g2⟩,f5⟩),by simp,by
   rw[<-k4,Y];simp only[hN,hD,J,K],by rw[B];exact k5,fun F=>by rw[B];exact k6 F,k7,(fun af=>(hk af).elim),k8.2⟩) (aQ.mono ae _ hrefs)
 refine⟨_,_,_,β,aa,TY V hc Q ao,.inl rfl,?_,by simp[au,aA,goInt],by simp[aC]⟩;simpa only[newAt,hG,ba]using an
end
section
variable{P:ea}{w:dz}{aa ah:Nat->Prop}{β:Bd}{H:Heap}
variable{o:Oper}{ρ:dk->AV}{base:Nat}
theorem xO{c:Call}{x:dk}(e:o.op=.call c){b:Builtin}(hc:c.callee=.builtin b)(d:c.args.toList=[x]):x∈o.op.operands/\c.args=#[x]:=by
 have a:c.args=#[x]:=by apply cc;simpa using d
 refine⟨?_,a⟩;rw[e];simp only[g9,ge,hc,a];simp
theorem wE{T:dl}{a:AV}(h:gF P T a=true)(hs:(∃b v e i l,a=.sl b v e i l)\/a=.p .aO\/∃f c,a=.p (.bI f c)):∃e,P.underlying T=some (.slice e):=by
 rcases hs with⟨b,v,e,i,l,rfl⟩|rfl|⟨f,c,rfl⟩<;>
 ·simp only[gF]at h
  split at h
  ·rename_i e d;exact⟨e,d⟩
  ·simp at h
theorem azC{c:Call}{x:dk}{n:Nat}{aj:List (Nat×Obj)}{H0:Heap}(y:o.op= .call c)(hc:c.callee= .builtin .cap)(A:c.args.toList=[x])(a:yR H0 (ρ x)=some (n,aj))(m:gF P (c.argTypes.getD 0 0) (ρ x)=true)(F:0<c.argTypes.size):
 bf P o ρ base {v:=.p (.int .i64 n),aj}/\(∀p∈aj,H0[p.1]?=some p.2):=by
 obtain⟨q,B⟩:=xO y hc A;have C:c.argTypes[0]?=some (c.argTypes.getD 0 0):=by simp[c6,F]
 generalize c.argTypes.getD 0 0=T at*
 have j:∀{H:Heap}{w:dz}{aa:Nat->Prop}{β:Bd}{f:dk->dp},(∃p l,f x= .slice p l n)->(∃e,P.underlying T=some (.slice e))->
  ∃s,(dq f o).run P w=.ok (.value s) w/\au P w aa β H (.p (.int .i64 n)) s/\aC (aG H) (.p (.int .i64 n)):=by
  rintro H w aa β f ⟨p,l,hx⟩ ⟨e,G⟩;refine⟨goInt n,?_,by simp[au,aA,goInt],by simp[aC]⟩;simp only[dq,y,resolve,hc,B];simp[invoke,builtin,gb,C,hx,dg G]
 unfold yR at a
 split at a
 ·rename_i hx;simp at a;obtain⟨rfl,rfl⟩:=a;refine⟨bf.same fun H w aa ah β f r g aj=>j ?_ (wE m (.inr (.inl hx))),by simp⟩;have d:=(g x q).1;rw[hx]at d;simp only[au,aA]at d;exact⟨_,_,d⟩
 ·rename_i i hx;simp at a;obtain⟨rfl,rfl⟩:=a;refine⟨bf.same fun H w aa ah β f r g aj=>j ?_ (wE m (.inr (.inr ⟨_,_,hx⟩))),by simp⟩;have d:=(g x q).1;rw[hx]at d;simp only[au,aA]at d;obtain⟨_,_,cap,_,_,_,_,_,z,_,_,_,k⟩:=d;exact⟨_,_,by rw[k,z trivial]⟩
 ·rename_i b ar ai off len hx
  split at a
  case h_2=>simp at a
  rename_i L K i E
  split at a
  case isFalse=>simp at a
  rename_i D;obtain⟨rfl,rfl,hle⟩:=D;simp at a;obtain⟨rfl,rfl⟩:=a;refine⟨bf.same fun H w aa ah β f r g aj=>j ?_ (wE m (.inl ⟨_,_,_,_,_,hx⟩)),by simpa using E⟩;have u:H[b]?=some (.arr .exact ar ai i):=by simpa using aj
  have d:=(g x q).1;rw[hx]at d;simp only[au,bG,bK]at d;obtain⟨_,_,k⟩:=d.2 _ _ u;have t:¬cU .exact i:=fun h=>by simp[cU,AK.gr]at h
  rcases r.cg b _ u with hold|⟨cs,I,J,rest,k1,k2,k3,k4,k5,k6,_⟩
  ·exact(t hold).elim
  exact⟨_,_,by rw[k t,k6 rfl]⟩
 ·simp at a
theorem QZ{c:Call}{x:dk}(b:o.op= .call c)(hc:c.callee= .builtin .clear)(f:c.args.toList=[x])(hx:ρ x= .p .aO)(d:gF P (c.argTypes.getD 0 0) (ρ x)=true)(j:0<c.argTypes.size):
 bf P o ρ base {v:=.p (.aE [])}:=by
 obtain⟨i,g⟩:=xO b hc f;have h:c.argTypes[0]?=some (c.argTypes.getD 0 0):=by simp[c6,j]
 generalize c.argTypes.getD 0 0=T at*;obtain⟨e,k⟩:=wE d (.inr (.inl hx));refine bf.same fun H w aa ah β n m l aj=>?_;have a:=(l x i).1;rw[hx]at a;simp only[au,aA]at a;refine⟨.tuple #[],?_,by simp[au,aA,bp],by simp[aC]⟩;simp only[dq,b,resolve,hc,g];simp[invoke,builtin,e6,h,a,dg k]
theorem U1{c:Call}{x:dk}{sz b ar off len:Nat}{k:AK}{d:List AV}{z:PV}(M:o.op= .call c)(hc:c.callee= .builtin .clear)(W:c.args.toList=[x])(al:0<c.argTypes.size)(l:cr P (c.argTypes.getD 0 0)=some sz)
 (am:cm P (dR P (c.argTypes.getD 0 0))=some z)(aw:bB P (aJ z)=sz)(hx:ρ x=.sl b ar sz off len)(hk:k≠.frozen)(ad:off+len<=d.length)(t:¬cU k d)(av:0<len):
 bf P o ρ base {v:=.p (.aE []),aj:=[(b,.arr k ar sz d)],aI:=[(b,.arr k ar sz (d.take off++hE len (.p z)++d.drop (off+len)))]}:=by
 obtain⟨ae,X⟩:=xO M hc W;have Y:c.argTypes[0]?=some (c.argTypes.getD 0 0):=by simp[c6,al]
 obtain⟨e,i,l⟩:=jE l;obtain⟨ax,r,U,z2,z3,z4⟩:=n7 am;rw[l.po]at U;intro H w aa ah β V D ap aj _;have j:H[b]?=some (.arr k ar sz d):=aj (b,_) (by simp);have g:=(ap x ae).1;rw[hx]at g;simp only[au,bG,bK]at g;obtain⟨_,_,g⟩:=g.2 k d j;have g:=g t;rcases D.cg b _ j with hold|⟨cs,u,aq,rest,k1,k2,k3,k4,k5,k6,k7,k8⟩
 ·exact(t hold).elim
 have K:¬aa (β.ak b)/\¬ah (β.ak b):=by
  unfold b9 at k7;rw[if_neg (by simpa using hk)]at k7;exact k7
 have Q:=z3 w aa;have R:r.cells.size=sz:=by have:=(mY Q).1;simp at this;omega
 have ao:r.cells.toList.length=sz:=by simpa using R
 have E:=tU (β:=β) (H:=H) Q len;rw[ao]at E;obtain⟨m,L⟩:∃m,m=hE len r.cells.toList:=⟨_,rfl⟩
 rw[<-L]at E;have F:Row P w aa β H sz (hE len (.p z)) m:=by
  exact E
 obtain⟨a,I,f,f1,f2,f3,f4,f5⟩:=jj k2 off len ad;have B:m.flatten.length=len*sz:=by have:=(fw F).2;rw[this];simp
 have C:I.flatten.length=len*sz:=by have:=(fw f2).2;rw[this];congr 1;simp;omega
 have J:cs.toList=a.flatten++I.flatten++(f.flatten++rest):=by rw[k3,f1];simp
 have O:cs.size=a.flatten.length+I.flatten.length+(f.flatten++rest).length:=by
  have:=congrArg h6 J;simp only[hD,ck]at this;rw[this,hD]
 have G:=em P (β.ak b) (off*sz) u m.flatten 0 cs w k1 (by rw[O,f3,B,C];simp only[jp];exact js _ _) (uJ F);simp only[jp]at G;have aP:cs.toList.take (off*sz)++m.flatten++cs.toList.drop (off*sz+m.flatten.length)=a.flatten++m.flatten++(f.flatten++rest):=by
  rw[J,<-f3,B,<-C];exact z7 _ _ _ _
 rw[aP]at G;have an:(e8 r.cells len).toList=m.flatten:=by
  have:=wO r.cells len (by rw[R];exact l.pos);rw[L,<-this];rfl
 have ai:(dq V o).run P w=.ok (.value (.tuple #[])) (w.setRow (β.ak b) (a.flatten++m.flatten++(f.flatten++rest)).toArray):=by
  obtain⟨S,rfl⟩:∃S,len=S+1:=⟨len-1,by omega⟩
  simp only[dq,M,resolve,hc,X];generalize c.argTypes.getD 0 0=T at*;simp only[ho,hp,hm,invoke,builtin,hS,hF,hV];have key:(e6 c.argTypes o.type #[V x]).run P w=.ok (.tuple #[]) (w.setRow (β.ak b) (a.flatten++m.flatten++(f.flatten++rest)).toArray):=by
   simp[e6,Y,g,dg l.fT,rT U z2,an,G]
  rw[key];rfl
 have s:(d.take off++hE len (AV.p z)++d.drop (off+len)).length=d.length:=by simp;omega
 have aF:bX β H β (H.set b (.arr k ar sz (d.take off++hE len (.p z)++d.drop (off+len)))):=ou j (.inr (.inl ⟨_,_,_,_,_,rfl,rfl,s.symm⟩));have ak:∀q,aa q->(w.setRow (β.ak b) (a.flatten++m.flatten++(f.flatten++rest)).toArray).heap[q]?=w.heap[q]?:=fun q ac=>ec w _ q _ (fun A=>K.1 (A▸ac));have hrefs:aQ (aG H) (d.take off++hE len (AV.p z)++d.drop (off+len)):=by
  have N:=cq.1 (D.refs b _ j);refine ji (ji ?_ ?_) ?_
  ·rw[cq];exact fun v n=>N v (hL n)
  ·rw[cq];intro v n;rw[List.eq_of_mem_replicate n];simp[aC]
  ·rw[cq];exact fun v n=>N v (hR n)
 have Z:=lD j (o:=.arr k ar sz (d.take off++hE len (.p z)++d.drop (off+len))) (fun _ h=>h);have af:¬cU k (d.take off++hE len (AV.p z)++d.drop (off+len)):=fun h=>t ⟨h.1,by have y:=h.2;rw[<-hT]at y⊢;rw[s]at y;exact y⟩;have ag:=pC D j t (o':=.arr k ar sz (d.take off++hE len (AV.p z)++d.drop (off+len))) af (fun _ h=>h) k1 (new:=(a.flatten++m.flatten++(f.flatten++rest)).toArray) K aF
  (.inr ⟨_,u,a++m++f,rest,ed w _ _ _ u _ k1,by
   refine Row.mono (fun _ x=>x) ak aF hrefs (kq.2 ⟨_,_,rfl,kq.2 ⟨_,_,rfl,f4,F⟩,f5⟩),by simp,by
   rw[<-k4,O];simp only[hN,hD,B,C],by rw[s];exact k5,fun A=>by rw[s];exact k6 A,k7,(fun ab=>(hk ab).elim),k8.2⟩) (aQ.mono Z _ hrefs)
 refine⟨_,_,_,β,aa,ai,.inl rfl,?_,by simp[au,aA,bp],by simp[aC]⟩;simpa only[newAt,hG,ba]using ag
theorem Ac{c:Call}{x:dk}{v:AV}{aj:List (Nat×Obj)}{H0:Heap}(l:o.op= .call c)(hc:c.callee= .builtin .unsafeSliceData)(n:c.args.toList=[x])
 (h:(ρ x=.p .aO/\v=.p .du/\aj=[])\/∃b ar ai off len k a,ρ x=.sl b ar ai off len/\H0[b]?=some (.arr k ar ai a)/\aj=[(b,.arr k ar ai a)]/\((cU k a/\v=.p .du)\/(0<len/\off+len<=a.length/\v=.bR b ar ai off []))):
 bf P o ρ base {v,aj}:=by
 obtain⟨s,q⟩:=xO l hc n;refine bf.same fun H w aa ah β m t y r=>?_;obtain⟨d,i⟩:=y x s;have g:∀f,(fl c.argTypes o.type #[m x]).run P w=.ok f w->(dq m o).run P w=.ok (.value f) w:=by
  intro f u;simp only[dq,l,resolve,hc,q];simp only[ho,hp,hm,invoke,builtin,hS,hF,hV];rw[u];rfl
 rcases h with⟨hx,rfl,rfl⟩|⟨b,ar,ai,off,len,k,a,hx,D,rfl,h⟩
 ·rw[hx]at d;simp only[au,aA]at d;exact⟨_,g _ (by rw[d];exact Lib.run_unsafeSliceData_nil w _ _ _ _),by simp[au,aA],by simp[aC]⟩
 ·have j:H[b]?=some (.arr k ar ai a):=by simpa using r
  rw[hx]at d i;simp only[au,bG,bK]at d;obtain⟨_,v2,v3⟩:=d.2 k a j;rcases h with⟨e,rfl⟩|⟨E,hle,rfl⟩
  ·exact⟨_,g _ (by rw[v2 e];exact Lib.run_unsafeSliceData_nil w _ _ _ _),by simp[au,aA],by simp[aC]⟩
  ·have e:¬cU k a:=fun h=>by rw[h.2]at hle;simp at hle;omega
   rcases t.cg b _ j with hold|⟨cs,z,A,rest,k1,k2,k3,k4,k5,_⟩
   ·exact(e hold).elim
   refine⟨_,g _ (by rw[v3 e];exact Lib.run_unsafeSliceData_row w _ _ _ _ _ (by omega)),?_,by simpa only[aC]using i⟩;simp only[au,bG,bK];refine⟨by simp[hv],β.ak b,off*ai,0,by simp,rfl,fun F B C _=>⟨rfl,by simp⟩⟩
theorem Uk(w:dz)(a:Addr)(n:Nat):(w.freeze a n).os=w.os/\(w.freeze a n).output=w.output:=by
 unfold hz
 first|exact⟨rfl,rfl⟩|(split<;>exact⟨rfl,rfl⟩)
theorem Ud{w':dz}(j:bL P w aa β H ah){b:Nat}{o:Obj}(i:H[b]?=some o)(v:o.live)(g:¬aa (β.ak b)/\¬ah (β.ak b))(C:∀L,o≠ .loop L)(D:w'.heap.size=w.heap.size)
 (hs:∀k,k≠β.ak b->w'.heap[k]?=w.heap[k]?)(B:w'.os=w.os/\w'.output=w.output:=by exact⟨rfl,rfl⟩):bO P ah aa w β H aa w' β (H.set b .dead):=by
 have n:b<H.length:=(hB.1 i).1;have c:∀(x:Nat)(a:Obj),(H.set b Obj.dead)[x]?=some a->a≠.dead->H[x]?=some a:=by
  intro x a hx q
  by_cases l:b=x
  ·subst l;rw[hC n]at hx;cases hx;exact(q rfl).elim
  ·rwa [hK l]at hx
 have aF:bX β H β (H.set b .dead):=by
  refine⟨?_,?_,?_,?_,?_⟩
  ·rintro x _ ⟨f,t,h⟩;exact⟨⟨f,t,c _ _ h (by simp)⟩,rfl⟩
  ·rintro x _ ⟨f,t,h⟩;exact⟨⟨f,t,c _ _ h (by simp)⟩,rfl⟩
  ·rintro x _ ⟨E,h,p⟩;exact⟨⟨E,c _ _ h (fun e=>by rw[e]at p;exact p.elim),p⟩,rfl⟩
  ·intro x ar ai k y _ h;exact⟨k,y,c _ _ h (by simp),i7 _,Iff.rfl,fun _=>⟨rfl,rfl⟩⟩
  ·rintro x _ ⟨L,h⟩;exact⟨⟨L,c _ _ h (by simp)⟩,rfl⟩
 have m:bO P ah aa w β H aa w β (H.set b .dead):=
  bO.set j n (fun _ _=>⟨rfl,rfl⟩) (fun _ x=>x) (fun _ x=>.inl x) j.bM (i7 _) (fun _ _ _=>rfl) (fun h=>h.elim) aF trivial trivial (fun _ _ _ _=>trivial) (fun L s=>by rw[i]at s;cases s;exact(C L rfl).elim)
 have hx:=j.mh i v;have z:=m.rel.IA hx (fun x a r d u=>by
  have q:a≠.dead:=fun e=>by rw[e]at d;exact d
  have l:x=b:=j.inj x b a o (c _ _ r q) i d v (fun hi=>g.1 (u▸hi)) u;subst l;rw[hC n]at r;cases r;exact d)
 have A:=z.shut (w':=w') (Prot0:=ah) (fun _ h=>.inl h) (R:=fun k=>k=β.ak b) (fun x e=>⟨.inr e,e▸g.1⟩) D (fun k hk=>hs k hk);refine⟨fun _ h=>h,fun _ h=>.inl h,⟨by omega,fun k hk=>hs k (fun e=>?_),B⟩,aF,A,m.eH,m.loop⟩;rcases hk with hk|hk
 ·exact g.2 (e▸hk)
 ·exact g.1 (e▸hk)
theorem AQ:∀{d:List AV}{l:List Nat}{b:List (List dp)},bytesOf d=some l->Row P w aa β H 1 d b->b.flatten=l.map (fun c=>hw .u8 (c:Nat))/\l.length=d.length/\∀c∈l,c<256
 |[],l,b,h,a=>by
  simp[bytesOf]at h;subst h;rw[gP]at a;subst a;simp
 |v::d,l,b,h,a=>by
  unfold bytesOf at h
  split at h
  ·rename_i e;cases e
  ·rename_i c r e;simp at e;obtain⟨rfl,rfl⟩:=e
   split at h
   case isFalse=>simp at h
   rename_i hc
   split at h
   case h_2=>simp at h
   rename_i m i;simp at h;subst h;rw[pH]at a;obtain⟨j,cs,rfl,f,k,g⟩:=a;obtain⟨i1,i2,i3⟩:=AQ i g;simp only[bc,aS]at f;subst f;refine⟨by simp[i1];omega,by simp[i2],?_⟩;intro x hx;rcases hH.1 hx with rfl|hx
   ·omega
   ·exact i3 x hx
  ·simp at h
theorem Rd{S D e:dl}{x:dk}{b ar off len:Nat}{k:AK}{d:List AV}{l:List Nat}(r:o.op= .convert S D x)(B:P.underlying S=some (.slice e))(y:P.underlying D=some .string)(A:P.underlying e=some (.int .u8))(hx:ρ x= .sl b ar 1 off len)
 (M:0<len)(j:off+len<=d.length)(E:bytesOf ((d.drop off).take len)=some l):bf P o ρ base {v:=.p (.str l),aj:=[(b,.arr k ar 1 d)]}:=by
 refine bf.same fun H w aa ah β N G J aj=>?_;have q:H[b]?=some (.arr k ar 1 d):=by simpa using aj
 have f:=(J x (by simp[r,g9])).1;rw[hx]at f;simp only[au,bG,bK]at f;have n:¬cU k d:=fun h=>by rw[h.2]at j;simp at j;omega
 have f:=(f.2 _ _ q).2.2 n;rcases G.cg b _ q with hold|⟨cs,K,L,rest,k1,k2,k3,k4,k5,k6,k7,k8⟩
 ·exact(n hold).elim
 obtain⟨a,m,z,g1,g2,g3,g4,g5⟩:=jj k2 off len j;obtain⟨s,t,u⟩:=AQ E g2;have F:l.length=len:=by rw[t];simp;omega
 have C:cs.toList=a.flatten++(l.map (fun c=>hw .u8 (c:Nat))++(z.flatten++rest)):=by
  rw[k3,g1];simp only[h3,hO,s]
 have I:=run_convert_bytes_arg (P:=P) w S e B A (β.ak b) (off*1) len (β.cap b-off) (l.map fun c:Nat=>(c:Int)) (by simpa using F) (fun i hi=>by
  have g:i<l.length:=by omega
  have:cs[off*1+i]?=some (.int .u8 (l[i]:Nat)):=by
   rw[<-ce,C,List.getElem?_append_right (by omega),g3,Nat.add_sub_cancel_left,h9 (by simpa using g),h5,ih g];rfl
  rw[List.getD_eq_getElem?_getD,h5,ih g];simp only[hA,k1];simpa using this) D y
 refine⟨.string (strOfNums (l.map fun c:Nat=>(c:Int))),?_,?_,by simp[aC]⟩
 ·simp only[dq,r,f];exact dX I
 ·simp only[au,aA];refine⟨_,rfl,?_⟩;rw[strOfNums_data,hW,hW]
  conv=>lhs;rw[<-i5 l]
  refine h0 fun c hc=>?_;have:=u c hc;simp[j9];omega
theorem QC{c:Call}{x y:dk}{b ar n:Nat}{d:List AV}{l:List Nat}{T X:dl}(F:o.op= .call c)(hc:c.callee= .builtin .unsafeString)(N:c.args.toList=[x,y])(ac:c.argTypes=#[T,X])(hx:ρ x= .bR b ar 1 0 [])(ae:ρ y= .p (.int .i64 n))
 (ai:0<n)(C:n<=d.length)(al:n<=9223372036854775807)(M:P.underlying T=some (.pointer Gl.u8))(ad:P.cellsOf Gl.u8=1)(W:bytesOf (d.take n)=some l):
 bf P o ρ base {v:=.p (.str l),aj:=[(b,.arr .bytes ar 1 d)],aI:=[(b,.dead)]}:=by
 have s:c.args=#[x,y]:=by apply cc;simpa using N
 have D:x∈o.op.operands/\y∈o.op.operands:=by
  rw[F];simp[g9,ge,hc,s]
 intro H w aa ah β r G I aj _;have q:H[b]?=some (.arr .bytes ar 1 d):=by simpa using aj
 have e:=(I x D.1).1;have f:=(I y D.2).1;rw[hx]at e;rw[ae]at f;simp only[au,bG,bK,aA]at e f;have i:¬cU .bytes d:=fun h=>by rw[h.2]at C;simp at C;omega
 obtain⟨_,ak,off,am,Y,E,e⟩:=e;simp[fK]at E;subst E;obtain⟨rfl,rfl⟩:=e _ _ q i;rcases G.cg b _ q with hold|⟨cs,af,ag,rest,k1,k2,k3,k4,k5,k6,k7,k8⟩
 ·exact(i hold).elim
 obtain rfl:=k8.2 rfl;have U:¬aa (β.ak b)/\¬ah (β.ak b):=by
  unfold b9 at k7;rw[if_neg (by simp)]at k7;exact k7
 obtain⟨a,m,z,g1,g2,g3,g4,g5⟩:=jj k2 0 n (by omega);have O:a=[]:=by have:=(fw g4).1;simpa using this
 subst O;rw[h8]at g2;obtain⟨J,K,L⟩:=AQ W g2;obtain⟨bs,u⟩:∃bs:List UInt8,bs=l.map kc:=⟨_,rfl⟩
 have g:bs.length=n:=by rw[u];simp[K];omega
 have t:bs.map (·.toNat)=l:=by
  rw[u,hW]
  conv=>rhs;rw[<-i5 l]
  refine h0 fun c hc=>?_;have:=L c hc;simp[j9];omega
 have A:cs.toList=bs.map (fun c=>hw .u8 c.toNat)++(z.flatten++rest):=by
  rw[k3,g1];simp only[h7,h3,hO,J];congr 1;rw[<-t,hW];rfl
 have ab:=Lib.run_unsafeString_row (P:=P) w T X o.type Gl.u8 M ad (β.ak b) cs.size (by simp[World.shape?,k1]) bs (fun h=>by rw[h]at g;simp at g;omega) (by
  have:=congrArg h6 A;simp only[ck,hD,iz]at this;omega) (by omega) (fun j v B=>by
  have V:j<bs.length:=(hB.1 B).1;rw[jJ];have:cs[j]?=some (.int .u8 v.toNat):=by
   rw[<-ce,A,h9 (by simpa using V),h5,B];rfl
  simp[hA,k1,this])
 have Q:(dq r o).run P w=.ok (.value (.string ⟨bs.toArray⟩)) (w.freeze ⟨β.ak b,0,none⟩ bs.length):=by
  simp only[dq,F,resolve,hc,s];simp only[ho,hp,hm,invoke,builtin,hS,hF,hV];have key:(e7 c.argTypes o.type #[r x,r y]).run P w=.ok (.string ⟨bs.toArray⟩) (w.freeze ⟨β.ak b,0,none⟩ bs.length):=by
   rw[ac,Y,f,<-g];simpa using ab
  rw[key];rfl
 have S:∀k,k≠β.ak b->(w.freeze ⟨β.ak b,0,none⟩ bs.length).heap[k]?=w.heap[k]?:=by
  intro k hk;unfold hz
  split
  ·rfl
  ·simp[Array.getElem?_modify,Ne.symm hk]
 have R:(w.freeze ⟨β.ak b,0,none⟩ bs.length).heap.size=w.heap.size:=by
  unfold hz
  split<;>simp
 have Z:=Ud G q i U (fun _ h=>by cases h) R S (Uk _ _ _);refine⟨_,_,_,β,aa,Q,.inl rfl,?_,?_,by simp[aC]⟩
 ·simpa only[newAt,hG,ba]using Z
 ·simp only[au,aA];exact⟨_,rfl,by simpa using t.symm⟩
theorem Qz{c:Call}{x y:dk}{T X:dl}(f:o.op= .call c)(hc:c.callee= .builtin .unsafeString)(i:c.args.toList=[x,y])(j:c.argTypes=#[T,X])(hx:ρ x= .p .du)(k:ρ y= .p (.int .i64 0)):
 bf P o ρ base {v:=.p (.str [])}:=by
 have d:c.args=#[x,y]:=by apply cc;simpa using i
 have e:x∈o.op.operands/\y∈o.op.operands:=by
  rw[f];simp[g9,ge,hc,d]
 refine bf.same fun H w aa ah β h l g aj=>?_;have a:=(g x e.1).1;have b:=(g y e.2).1;rw[hx]at a;rw[k]at b;simp only[au,aA]at a b;refine⟨.string .empty,?_,by simp only[au,aA];exact⟨_,rfl,rfl⟩,by simp[aC]⟩;simp only[dq,f,resolve,hc,d];simp only[ho,hp,hm,invoke,builtin,hS,hF,hV];have key:(e7 c.argTypes o.type #[h x,h y]).run P w=.ok (.string .empty) w:=by
  rw[j,a,b];exact Lib.run_unsafeString_none w _ _ _ _
 rw[key];rfl
end
section
variable{P:ea}
theorem Ce{c:Call}{ρ:dk->AV}{x:AV}(a:c.args.toList.map ρ=[x]):∃y,c.args.toList=[y]/\ρ y=x:=by
 match b:c.args.toList with
 |[]=>rw[b]at a;simp at a
 |[y]=>rw[b]at a;simp at a;exact⟨y,rfl,a⟩
 |_::_::_=>rw[b]at a;simp at a
theorem Hq{c:Call}(h:c.argTypes.size=2):∃T X,c.argTypes=#[T,X]:=by
 obtain⟨l,d⟩:∃l,l=c.argTypes.toList:=⟨_,rfl⟩
 have e:l.length=2:=by rw[d];simpa using h
 match l,e with
 |[a,b],_=>exact⟨a,b,by apply cc;simp[<-d]⟩
theorem nZ(ag:ee->Bool):lh P ag:=by
 intro o ρ H K _ h;unfold fc at h;have plain:∀{e:aR},K e->bf P o ρ H.length e->e.aj=[]->e.aI=[]->∃e,K e/\bf P o ρ H.length e/\(∀p∈e.aj,H[p.1]?=some p.2)/\(∀p∈e.aI,p.1<H.length/\p.2≠.hole):=by
  intro e A B G I;exact⟨e,A,B,by simp[G],by simp[I]⟩
 cases q:o.op<;>simp only[q]at h
 case move x=>exact plain h (Oo (.inl q)) rfl rfl
 case assign x=>exact plain h (Oo (.inr q)) rfl rfl
 case pick c a b=>
  split at h
  ·rename_i t hc;exact plain h (azI q hc) rfl rfl
  ·exact h.elim
 case alloc T=>
  split at h
  ·rename_i z N;exact plain h.2.2.2 (U3 q N h.2.2.1) rfl rfl
  ·exact h.elim
 case box T x=>exact plain h.2.2.2 (azB q h.2.1 h.2.2.1) rfl rfl
 case build T parts=>
  split at h
  ·rename_i u z hk N
   split at h
   ·rename_i l C;obtain⟨A,B,G⟩:=h;exact plain G (U2 q hk N C A B) rfl rfl
   ·exact h.elim
  ·exact h.elim
 case buildSlice T n parts=>
  split at h
  ·rename_i sz z V N;obtain⟨A,B,G,I⟩:=h;exact plain I (Q0 q V N A B G) rfl rfl
  ·exact h.elim
 case load T a=>exact azG q h
 case store T a x=>exact VE q h
 case binOp b T x y aG=>
  obtain⟨v,A,B⟩:=azA (base:=H.length) q h;exact⟨_,A,B,mQ,by simp⟩
 case unOp u T x=>
  split at h
  ·rename_i b hx;exact plain h (Dc q hx (.inl ⟨rfl,_,rfl,rfl⟩)) rfl rfl
  ·rename_i k n hx;exact plain h (Dc q hx (.inr (.inl ⟨rfl,_,_,rfl,rfl⟩))) rfl rfl
  ·rename_i k n hx;exact plain h (Dc q hx (.inr (.inr ⟨rfl,_,_,rfl,rfl⟩))) rfl rfl
  ·exact h.elim
 case convert S D x=>
  split at h
  ·rename_i d k k0 n ab aa hx;exact plain h (SC q ⟨_,ab⟩ aa hx) rfl rfl
  ·rename_i d s ab aa hx;exact plain h (SB q ⟨_,ab⟩ aa hx) rfl rfl
  ·rename_i e b ar ai off len ab aa hx
   split at h
   case h_2=>exact h.elim
   rename_i k ak af U w;obtain⟨rfl,rfl,rfl,V,al,hle,h⟩:=h
   split at h
   case h_2=>exact h.elim
   rename_i l C;exact⟨_,h,Rd q ab aa V hx al hle C,by simpa using w,by simp⟩
  ·exact h.elim
 case extract t i=>
  split at h
  ·rename_i vs ap
   split at h
   ·rename_i v aq;exact plain h (Hg q (.inr ⟨_,ap,rfl⟩) (by simp[aq])) rfl rfl
   ·exact h.elim
  ·rename_i vs ap
   split at h
   ·rename_i v aq;exact plain h (Hg q (.inl ap) aq) rfl rfl
   ·exact h.elim
  ·exact h.elim
 case fieldAddr T a f=>
  obtain⟨e,A,B,G,I⟩:=Rc (base:=H.length) q h;exact plain A B G I
 case indexAddr T x i=>
  obtain⟨e,A,B,G,I⟩:=Rb (base:=H.length) q h;exact⟨e,A,B,G,by simp[I]⟩
 case field T x f=>
  split at h
  ·rename_i u fs t hk aA hx;obtain⟨A,h⟩:=h
   split at h
   ·rename_i g F ao am;exact plain h.2 (U0 q hk aA hx A ao am h.1) rfl rfl
   ·exact h.elim
  ·exact h.elim
 case index T x i=>
  split at h
  ·rename_i s k n hx hi;obtain⟨A,B,G,I⟩:=h;exact plain I (Sf q hx hi A B G) rfl rfl
  ·rename_i u U k n hx hi
   split at h
   ·rename_i u' m F g J am ao;obtain⟨rfl,al,ac,hk,h⟩:=h;exact plain h (Sg q J hx hi al ac am ao hk) rfl rfl
   ·exact h.elim
  ·exact h.elim
 case makeFunc fn fi ca=>
  cases fn<;>simp only at h
  case func f=>
   obtain⟨m1,m2,m3⟩:=Se (ρ:=ρ) (base:=H.length) q
   split at h
   ·split at h
    ·rename_i a b aj aI j an;obtain⟨q1,ad,aF⟩:=m3 H a b aj aI j an;exact⟨_,h,q1,ad,aF⟩
    ·exact h.elim
   ·split at h
    ·rename_i a b j an;exact plain h (m1 a b j an) rfl rfl
    ·exact plain h m2 rfl rfl
 case makeSlice T l c=>
  split at h
  ·rename_i sz z aH c' V N C hc;obtain⟨A,B,rfl,I,O⟩:=h;exact plain O (Ra q V N C hc A B I) rfl rfl
  ·exact h.elim
 case slice T x lo hi aB=>
  cases aB with
  |none=>
   obtain⟨e,A,B,G,I⟩:=UY (base:=H.length) q h;exact⟨e,A,B,G,by simp[I]⟩
  |some m=>
   obtain⟨e,A,B,G,I⟩:=TM (base:=H.length) q h;exact⟨e,A,B,G,by simp[I]⟩
 case makeMap T r=>
  cases r<;>simp only at h;exact plain h (SA q) rfl rfl
 case lookup T x i ok=>
  split at h
  case h_2=>exact h.elim
  rename_i ae E key J hi
  split at h
  case h_2=>exact h.elim
  rename_i z N;obtain⟨hk,h⟩:=h
  split at h
  ·rename_i hx;exact plain h (ud (r:=none) (es:=[]) q J N hi hk rfl (.inl ⟨hx,rfl⟩)) rfl rfl
  ·rename_i U hx
   split at h
   ·rename_i v C;exact plain h (ud (r:=some v) q J N hi hk C (.inr (.inl hx))) rfl rfl
   ·rename_i C;exact plain h (ud (r:=none) q J N hi hk C (.inr (.inl hx))) rfl rfl
   ·exact h.elim
  ·rename_i b hx
   split at h
   case h_3=>exact h.elim
   ·rename_i fz U w
    split at h
    ·rename_i v C;exact⟨_,h,ud (r:=some v) q J N hi hk C (.inr (.inr ⟨b,fz,hx,by simp⟩)),by simpa using w,by simp⟩
    ·rename_i C;exact⟨_,h,ud (r:=none) q J N hi hk C (.inr (.inr ⟨b,fz,hx,by simp⟩)),by simpa using w,by simp⟩
    ·exact h.elim
   ·rename_i ks vs w;obtain⟨Q,h⟩:=h
    split at h
    ·rename_i v C;exact⟨_,h,E7 (r:=some v) q J N hi hk Q C hx,by simpa using w,by simp⟩
    ·rename_i C;exact⟨_,h,E7 (r:=none) q J N hi hk Q C hx,by simpa using w,by simp⟩
    ·exact h.elim
  ·exact h.elim
 case mapUpdate T m k x=>
  split at h
  case h_3=>exact h.elim
  ·rename_i ae E b key v J W hk hx;obtain⟨hf,h⟩:=h
   split at h
   case h_3=>exact h.elim
   ·rename_i U w
    split at h
    case h_2=>exact h.elim
    rename_i r C;exact⟨_,h,FZ (.inl q) J W hk hx hf C,by simpa using w,by simpa using(hB.1 w).1⟩
   ·rename_i ks vs w;obtain⟨au,av,j,Q,C,h⟩:=yz h;rw[<-hx]at h;exact⟨_,h,vX (.inl q) J W hk hf j Q C,by simpa using w,by simpa using(hB.1 w).1⟩
  ·rename_i ae E b key J W hk _;obtain⟨hf,h⟩:=h
   split at h
   case h_2=>exact h.elim
   rename_i aE w;obtain⟨au,av,j,Q,C,h⟩:=yz h;exact⟨_,h,vX (.inl q) J W hk hf j Q C,by simpa using w,by simpa using(hB.1 w).1⟩
 case insert T m k x=>
  split at h
  case h_3=>exact h.elim
  ·rename_i ae E b key v J W hk hx;obtain⟨hf,h⟩:=h
   split at h
   case h_3=>exact h.elim
   ·rename_i U w
    split at h
    case h_2=>exact h.elim
    rename_i r C;exact⟨_,h,FZ (.inr q) J W hk hx hf C,by simpa using w,by simpa using(hB.1 w).1⟩
   ·rename_i ks vs w;obtain⟨au,av,j,Q,C,h⟩:=yz h;rw[<-hx]at h;exact⟨_,h,vX (.inr q) J W hk hf j Q C,by simpa using w,by simpa using(hB.1 w).1⟩
  ·rename_i ae E b key J W hk _;obtain⟨hf,h⟩:=h
   split at h
   case h_2=>exact h.elim
   rename_i aE w;obtain⟨au,av,j,Q,C,h⟩:=yz h;exact⟨_,h,vX (.inr q) J W hk hf j Q C,by simpa using w,by simpa using(hB.1 w).1⟩
 case range T x=>
  split at h
  ·rename_i s hx;exact plain h.2 (UZ q hx h.1) rfl rfl
  ·exact h.elim
 case next it isStr=>
  cases isStr<;>simp only at h
  split at h
  case h_2=>exact h.elim
  rename_i b hx
  split at h
  case h_2=>exact h.elim
  rename_i s pos w;obtain⟨aC,aD⟩:=azH (P:=P) (base:=H.length) (s:=s) (pos:=pos) q hx
  split at h
  ·rename_i Y;exact⟨_,h,aC Y,by simpa using w,by simpa using(hB.1 w).1⟩
  ·rename_i Y;exact⟨_,h,aD Y,by simpa using w,by simp⟩
 case nilCheck x=>
  split at h
  ·rename_i b p hx;exact plain h (Aa q (.inl ⟨b,p,hx⟩)) rfl rfl
  ·rename_i b v e i p hx;exact plain h (Aa q (.inr (.inl ⟨b,v,e,i,p,hx⟩))) rfl rfl
  ·rename_i t hx;exact plain h (Aa q (.inr (.inr ⟨t,hx⟩))) rfl rfl
  ·exact h.elim
 case call c=>
  split at h
  case h_2=>exact h.elim
  rename_i b hc
  split at h
  ·rename_i x j
   split at h
   case h_2=>exact h.elim
   rename_i n aj C;obtain⟨A,B,G⟩:=h;obtain⟨y,M,rfl⟩:∃y,c.args.toList=[y]/\ρ y=x:=by
    match L:c.args.toList with
    |[]=>rw[L]at j;simp at j
    |[y]=>rw[L]at j;simp at j;exact⟨y,rfl,j⟩
    |_::_::_=>rw[L]at j;simp at j
   obtain⟨q1,ad⟩:=azF (P:=P) (base:=H.length) q hc M C A B;exact⟨_,G,q1,ad,by simp⟩
  ·rename_i s x j;obtain⟨y,z,M,rfl,rfl⟩:∃y z,c.args.toList=[y,z]/\ρ y=s/\ρ z=x:=by
    match L:c.args.toList with
    |[]=>rw[L]at j;simp at j
    |[y]=>rw[L]at j;simp at j
    |[y,z]=>rw[L]at j;simp at j;exact⟨y,z,rfl,j.1,j.2⟩
    |_::_::_::_=>rw[L]at j;simp at j
   exact TO q hc M h.1 h.2
  ·rename_i k a r j
   split at h
   ·rename_i n ac;exact plain h (HF (isMax:=false) q hc j ac) rfl rfl
   ·exact h.elim
  ·rename_i k a r j
   split at h
   ·rename_i n ac;exact plain h (HF (isMax:=true) q hc j ac) rfl rfl
   ·exact h.elim
  ·rename_i d x j;obtain⟨y,z,M,ay,rfl⟩:∃y z,c.args.toList=[y,z]/\ρ y=d/\ρ z=x:=by
    match L:c.args.toList with
    |[]=>rw[L]at j;simp at j
    |[y]=>rw[L]at j;simp at j
    |[y,z]=>rw[L]at j;simp at j;exact⟨y,z,rfl,j.1,j.2⟩
    |_::_::_::_=>rw[L]at j;simp at j
   split at h
   case h_2=>exact h.elim
   rename_i sz b ar ai off len aJ V hx;obtain⟨rfl,A,B,h⟩:=h
   split at h
   case h_2=>exact h.elim
   rename_i k ak af U w;obtain⟨rfl,rfl,G,I,O,Z⟩:=h;refine⟨_,Z,azD q hc M B V ay hx A G I O,?_,by simpa using(hB.1 w).1⟩;intro p Y;rcases hH.1 Y with rfl|Y
   ·exact w
   ·exact mQ p Y
  ·rename_i x j;obtain⟨y,M,rfl⟩:=Ce j
   split at h
   case h_2=>exact h.elim
   rename_i n aj C;obtain⟨A,B,G⟩:=h;obtain⟨q1,ad⟩:=azC (P:=P) (base:=H.length) q hc M C A B;exact⟨_,G,q1,ad,by simp⟩
  ·rename_i x j;obtain⟨y,M,R⟩:=Ce j
   split at h
   ·rw[<-R]at h;exact plain h.2.2 (QZ q hc M R h.1 h.2.1) rfl rfl
   ·split at h
    ·rename_i b ar ai off len sz z k ak af U V N w;obtain⟨rfl,rfl,rfl,A,B,G,I,O,Z,ax⟩:=h;exact⟨_,ax,U1 q hc M O V N A R B G I Z,by simpa using w,by simpa using(hB.1 w).1⟩
    ·exact h.elim
   ·exact h.elim
  ·rename_i x j;obtain⟨y,M,R⟩:=Ce j
   split at h
   ·exact plain h (Ac (H0:=H) q hc M (.inl ⟨R,rfl,rfl⟩)) rfl rfl
   ·split at h
    ·rename_i b ar ai off len k ak af U w;obtain⟨rfl,rfl,h⟩:=h;rcases h with⟨A,B,G⟩|⟨A,B,G⟩
     ·exact⟨_,G,Ac q hc M (.inr ⟨_,_,_,_,_,_,_,R,w,rfl,.inl ⟨⟨A,B⟩,rfl⟩⟩),by simpa using w,by simp⟩
     ·exact⟨_,G,Ac q hc M (.inr ⟨_,_,_,_,_,_,_,R,w,rfl,.inr ⟨A,B,rfl⟩⟩),by simpa using w,by simp⟩
    ·exact h.elim
   ·exact h.elim
  ·rename_i x n j;obtain⟨y,z,M,R,aw⟩:∃y z,c.args.toList=[y,z]/\ρ y=x/\ρ z=.p (.int .i64 n):=by
    match L:c.args.toList with
    |[]=>rw[L]at j;simp at j
    |[y]=>rw[L]at j;simp at j
    |[y,z]=>rw[L]at j;simp at j;exact⟨y,z,rfl,j.1,j.2⟩
    |_::_::_::_=>rw[L]at j;simp at j
   split at h
   ·obtain⟨rfl,A,B⟩:=h;obtain⟨T,X,ah⟩:=Hq A;exact plain B (Qz q hc M ah R aw) rfl rfl
   ·split at h
    ·rename_i b ar ai i ak af U w;obtain⟨rfl,rfl,rfl,rfl,A,B,G,I,O,Z,h⟩:=h;obtain⟨T,X,ah⟩:=Hq I
     split at h
     ·rename_i l C;obtain⟨m,rfl⟩:=Int.eq_ofNat_of_zero_le (by omega:0<=n);simp only[Int.toNat_natCast]at B C;have J:P.underlying T=some (.pointer Gl.u8):=by
       rw[ah]at O;simp only[ptrTo]at O
       split at O
       ·rename_i e az;simp at O;rw[<-O];exact az
       ·simp at O
      exact⟨_,h,QC q hc M ah R aw (by omega) B (by omega) J Z C,by simpa using w,by simpa using(hB.1 w).1⟩
     ·exact h.elim
    ·exact h.elim
   ·exact h.elim
  ·exact h.elim
end
section
variable{P:ea}{ag:ee->Bool}{n:Nat}
theorem Iq{o o':Obj}(h:lN o=some o'):lN o'=some o':=by
 unfold lN at h
 split at h
 ·simp at h;subst h;rfl
 ·rename_i k ar ai b
  split at h
  ·simp at h
  ·split at h
   ·rename_i l a;simp at h;subst h;simp[lN,AK.gr,a]
   ·simp at h
 ·simp at h;subst h;rfl
 ·simp at h
theorem XK{w:dz}{aa ah:Nat->Prop}{β:Bd}{H:Heap}(d:bL P w aa β H ah){b:Nat}{o o':Obj}(c:H[b]?=some o)(hf:lN o=some o'):
 ∃aD,bO P ah aa w β H aD w β (H.set b o')/\aD (β.ak b):=by
 unfold lN at hf
 split at hf
 ·rename_i fz t;simp at hf;subst hf;obtain⟨cs,T,g,i,j,m⟩:=d.cg b _ c;have aF:bX β H β (H.set b (.box true (.p t))):=rF c (.inl ⟨_,_,_,rfl,rfl⟩);exact rK d c trivial (o':=.box true (.p t)) trivial (fun _ h=>h) (fun _ h=>by cases h) aF j.sL
   (fun aD hi l=>⟨cs,T,g,bc.mono hi (fun _ _=>rfl) aF _ _ (by simp[aC]) i,l,fun _=>trivial,m.2⟩) (by simp[Obj.refs,aC])
 ·rename_i k ar ai f
  split at hf
  ·simp at hf
  ·rename_i q
   split at hf
   case h_2=>simp at hf
   rename_i C z;simp at hf;subst hf;have r:=lB z;rcases d.cg b _ c with hold|⟨cs,T,u,rest,g,i,j,m,x,A,y,B⟩
   ·exact(q hold).elim
   have s:¬cU .frozen f:=fun h=>by cases h.1
   have aF:bX β H β (H.set b (.arr .frozen ar ai f)):=rF c (.inr (.inl ⟨_,_,_,_,_,rfl,rfl,q,s⟩));exact rK d c q (o':=.arr .frozen ar ai f) s (fun _ h=>h) (fun _ h=>by cases h) aF y.sL
    (fun aD hi l=>.inr ⟨cs,T,u,rest,g,bF.mono hi (fun _ _=>rfl) aF _ _ _ (d.refs b _ c) i,j,m,x,(fun h=>by cases h),l,fun _ e n=>(by rw[r]at n;simp at n;obtain⟨a,_,rfl⟩:=n;trivial),fun h=>by cases h⟩)
    (by rw[r];exact iI _ _)
 ·rename_i fz f;simp at hf;subst hf;obtain⟨v,clock,g,i,j⟩:=d.cg b _ c;have aF:bX β H β (H.set b (.map true f)):=rF c (.inr (.inr ⟨_,_,_,rfl,rfl⟩));exact rK d c trivial (o':=.map true f) trivial (fun _ h=>h) (fun _ h=>by cases h) aF j.sL
   (fun aD hi l=>⟨v,clock,g,cd.mono hi (fun _ _=>rfl) _ _ i,l⟩) trivial
 ·simp at hf
theorem GF{w:dz}{ah:Nat->Prop}{β:Bd}{H0:Heap}:∀(bs:List Nat){aj aI:List (Nat×Obj)}{H:Heap}{aa:Nat->Prop},kx H0 bs=some (aj,aI)->bL P w aa β H ah->
 (∀p∈aj,∃c,H[p.1]?=some c/\lN c=lN p.2)->∃aD,bO P ah aa w β H aD w β (ba H aI)/\∀b∈bs,aD (β.ak b)
 |[],aj,aI,H,aa,h,a,_=>by
  simp[kx]at h;obtain⟨rfl,rfl⟩:=h;exact⟨aa,bO.refl a,by simp⟩
 |b::bs,aj,aI,H,aa,h,a,hc=>by
  simp only[kx]at h
  split at h
  case h_2=>simp at h
  rename_i o q s r g
  split at h
  case h_2=>simp at h
  rename_i o' hf;simp at h;obtain⟨rfl,rfl⟩:=h;obtain⟨c,g1,g2⟩:=hc (b,o) (by simp);simp only at g1 g2;rw[hf]at g2;obtain⟨n,e,l⟩:=XK a g1 g2;have i:b<H.length:=(hB.1 g1).1;obtain⟨f,q1,m⟩:=GF bs g e.rel (by
   intro p j;obtain⟨k,k1,k2⟩:=hc p (by simp[j])
   by_cases d:b=p.1
   ·rw[<-d]at k1⊢;rw[g1]at k1;cases k1;refine⟨o',by rw[hC i],?_⟩;rw[<-k2,g2,Iq g2]
   ·exact⟨k,by rw[hK d];exact k1,k2⟩)
  refine⟨f,by simpa only[ba]using e.trans q1,?_⟩;intro x hx;rcases hH.1 hx with rfl|hx
  ·exact q1.bM _ l
  ·exact m x hx
theorem Ir{H0:Heap}:∀(bs:List Nat){aj aI:List (Nat×Obj)},kx H0 bs=some (aj,aI)->(∀p∈aj,H0[p.1]?=some p.2)/\(∀p∈aI,p.1<H0.length/\p.2≠.hole)/\aj.map (·.1)=bs
 |[],aj,aI,h=>by
  simp[kx]at h;obtain⟨rfl,rfl⟩:=h;simp
 |b::bs,aj,aI,h=>by
  simp only[kx]at h
  split at h
  case h_2=>simp at h
  rename_i o f g d e
  split at h
  case h_2=>simp at h
  rename_i o' hf;simp at h;obtain⟨rfl,rfl⟩:=h;obtain⟨i1,i2,i3⟩:=Ir bs e;refine⟨?_,?_,by simp[i3]⟩
  ·intro p a;rcases hH.1 a with rfl|a
   ·exact d
   ·exact i1 p a
  ·intro p a;rcases hH.1 a with rfl|a
   ·refine⟨(hB.1 d).1,fun c=>?_⟩;simp only at c;have:=Iq hf;rw[c]at this;simp[lN]at this
   ·exact i2 p a
theorem Vt{w:dz}{aa aD ah:Nat->Prop}{β:Bd}{H0 H:Heap}{a:AV}{pv:PV}{bs:List Nat}{v:dp}(d:lV H0 a=some (pv,bs))(aj:∀b∈bs,H[b]?=H0[b]?)(n:bL P w aa β H ah)(e:au P w aa β H a v)
 (hi:∀k,aa k->aD k)(r:∀b∈bs,aD (β.ak b)):aA P w aD pv v:=by
 cases a with
 |p t=>
  simp[lV]at d;obtain⟨rfl,rfl⟩:=d;simp only[au]at e;exact aA.mono hi (fun _ _=>rfl) _ _ e
 |sl b ar ai off len=>
  simp only[lV]at d
  split at d
  case h_2=>simp at d
  rename_i k S M g l
  split at d
  case isFalse=>simp at d
  rename_i F;obtain⟨rfl,rfl,R⟩:=F
  split at d
  ·simp at d
  ·rename_i y
   split at d
   case h_2=>simp at d
   rename_i z I;simp at d;obtain⟨rfl,rfl⟩:=d;have x:=lB I;have f:H[b]?=some (.arr k ar ai g):=by rw[aj b (by simp)];exact l
   have j:=r b (by simp);simp only[au,bG,bK]at e;obtain⟨v1,v2,v3⟩:=e.2 k g f;rcases n.cg b _ f with hold|⟨cs,T,A,rest,i,h,q,D,N,E,O,Q⟩
   ·exact(y hold).elim
   rw[v3 y];have J:Row P w aD β H ai g A:=bF.mono hi (fun _ _=>rfl) (bX.refl _ _) _ _ _ (n.refs b _ f) h;obtain⟨a,m,c,e1,e2,e3,e4,e5⟩:=jj J off len v1;rw[x,zZ,lC]at e2;have u:((z.drop off).take len).length=len:=by
    have:g.length=z.length:=by rw[x];simp
    simp;omega
   simp only[aA];refine⟨β.ak b,off*ai,β.cap b-off,ai,m,e2,fun _=>j,?_,?_,?_,none,.inl rfl,?_⟩
   ·rw[<-e3];exact ln i (post:=c.flatten++rest) (by rw[q,e1];simp)
   ·intro hf;simp at hf;rw[u,E hf.1];omega
   ·rw[u];omega
   ·rw[u]
 |ptr b path=>
  simp only[lV]at d
  split at d
  case h_2=>simp at d
  rename_i fz t l
  split at d
  case h_2=>simp at d
  rename_i s hs;simp at d;obtain⟨rfl,rfl⟩:=d;have f:H[b]?=some (.box fz (.p t)):=by rw[aj b (by simp)];exact l
  have j:=r b (by simp);simp only[au,bG,bK]at e;obtain⟨_,L,K,o,rfl,G,e⟩:=e;obtain⟨rfl,rfl⟩:=e (.inl ⟨fz,_,f⟩);obtain⟨cs,T,i,h,q,D⟩:=n.cg b _ f;have C:aS P w aD t cs.toList:=by simp only[bc]at h;exact aS.mono hi (fun _ _=>rfl) _ _ h
  obtain⟨pre,xs,post,e1,e2,e3⟩:=xA C hs G;simp only[aA];refine⟨β.ak b,K,xs,e3,j,?_,rfl⟩;rw[<-e2];exact ln i e1
 |map b=>
  simp only[lV]at d
  split at d
  case h_2=>simp at d
  rename_i fz g l;simp at d;obtain⟨rfl,rfl⟩:=d;have f:H[b]?=some (.map fz g):=by rw[aj b (by simp)];exact l
  have j:=r b (by simp);simp only[au,bG,bK]at e;have e:=e.2.1 ⟨_,f,trivial⟩;obtain⟨B,clock,i,h,q⟩:=n.cg b _ f;simp only[aA];exact⟨β.ak b,B,clock,j,i,cd.mono hi (fun _ _=>rfl) _ _ h,e⟩
 |bR=>simp[lV]at d
 |func=>simp[lV]at d
 |st=>simp[lV]at d
 |aE=>simp[lV]at d
theorem H6{w:dz}{aa aD ah:Nat->Prop}{β:Bd}{H0 H:Heap}:∀{l:List AV}{vs:List PV}{bs:List Nat}{d:List dp},nF H0 l=some (vs,bs)->(∀b∈bs,H[b]?=H0[b]?)->bL P w aa β H ah->br P w aa β H l d->
 (∀k,aa k->aD k)->(∀b∈bs,aD (β.ak b))->bp P w aD vs d
 |[],vs,bs,d,h,_,_,c,_,_=>by
  simp[nF]at h;obtain⟨rfl,rfl⟩:=h;simp only[br]at c;simpa[bp]using c
 |a::l,vs,bs,d,h,aj,f,c,hi,e=>by
  simp only[nF]at h
  split at h
  case h_2=>simp at h
  rename_i v m o n g i;simp at h;obtain⟨rfl,rfl⟩:=h;simp only[br]at c;obtain⟨y,j,rfl,k1,k2⟩:=c;simp only[bp];exact⟨y,j,rfl,Vt g (fun b hx=>aj b (by simp[hx])) f k1 hi (fun b hx=>e b (by simp[hx])),H6 i (fun b hx=>aj b (by simp[hx])) f k2 hi (fun b hx=>e b (by simp[hx]))⟩
def Act(P:ea)(n:Nat)(o:Oper)(s:St)(e:aR):Prop:=
 ∀(fr:eq)(k:List Item)(cs:List eq)(a:Array Oper)(i:Nat)(r:List Nat)(b:List Deferred)(ah aa:Nat->Prop)(β:Bd)(s':St)(t:Array dp)(w:dz),
  a[i]?=some o->hj o (yielded a t)=true->iC n o=true->cA P n ah aa β s' t w->(∀x∈o.op.operands,ev s'.env x=ev s.env x)->
  (∀p∈e.aj,s'.heap[p.1]?=some p.2)->(∀j,j<e.aP.length->s'.heap[s.heap.length+j]?=some .hole)->
  ∃aD aH c w',Steps P (lone (bu fr t b (.inRegion a (i::r)::k)) cs w) (lone (bu fr c b (.inRegion a r::k)) cs w')/\
   cA P n ah aD aH ⟨put o.dst e.v s'.env,ba s'.heap (e.aI++newAt s.heap.length e.aP)⟩ c w'/\∀N,dA N ah aa w β s'.heap ah aD w' aH (ba s'.heap (e.aI++newAt s.heap.length e.aP))
theorem RI{o:Oper}{K:aR->Prop}{s:St}(h:iT P ag o s K)(c:Call):o.op≠.defer c:=by
 intro hc;unfold iT at h;rw[hc]at h;simp[fc,hc]at h
theorem LO{e e':Env}{l:List dk}(h:∀x∈l,ev e' x=ev e x):l.map (ev e')=l.map (ev e):=h0 h
theorem Jq{o:Oper}{f:dk}{H:Array dk}{ak:Array dl}{g:ee}{fi ca:List AV}{K:aR->Prop}{s:St}
 (W:o.op=.call {callee:=.value f,args:=H,argTypes:=ak})
 (hf:(ev s.env f=.func g fi ca)\/(∃a b,ev s.env f=.p (.func g a b)/\fi=a.map .p/\ca=b.map .p))
 (h:gI P g (fi++H.toList.map (ev s.env)++ca) s.heap K):
 ∃e,K e/\(∀p∈e.aj,s.heap[p.1]?=some p.2)/\(∀p∈e.aI,p.1<s.heap.length/\p.2≠.hole)/\Act P n o s e:=by
 have Q:∀c,o.op≠.defer c:=fun c hc=>by rw[W]at hc;cases hc
 have ac:f∈o.op.operands/\∀x∈H.toList,x∈o.op.operands:=by
  rw[W];simp[g9,ge];exact fun x hx=>.inr hx
 have M:∀{ah aa:Nat->Prop}{β:Bd}{s':St}{t:Array dp}{w:dz},cA P n ah aa β s' t w->(∀x∈o.op.operands,ev s'.env x=ev s.env x)->
  ∃m:List dp,br P w aa β s'.heap (fi++H.toList.map (ev s.env)++ca) m/\aQ (aG s'.heap) (fi++H.toList.map (ev s.env)++ca)/\(dq (fe t) o).run P w=(callFunc g m.toArray).run P w:=by
  intro ah aa β s' t w d A;have I:=nA d f;rw[A f ac.1]at I;obtain⟨G,F,av,ar,ap,aB,ay⟩:∃G F:List dp,fe t f=.func (.func g) G.toArray F.toArray/\br P w aa β s'.heap fi G/\br P w aa β s'.heap ca F/\aQ (aG s'.heap) fi/\aQ (aG s'.heap) ca:=by
   rcases hf with hf|⟨a,b,hf,rfl,rfl⟩
   ·rw[hf]at I;simp only[au,aC]at I;obtain⟨⟨G,F,y,z,D⟩,S,an⟩:=I;exact⟨G,F,D,y,z,S,an⟩
   ·rw[hf]at I;simp only[au,aA]at I;obtain⟨⟨G,F,y,z,D⟩,_⟩:=I;exact⟨G,F,D,jb.2 y,jb.2 z,iI _ _,iI _ _⟩
  obtain⟨Y,Z⟩:=uh d H.toList;rw[LO (fun x hx=>A x (ac.2 x hx))]at Y Z;refine⟨G++H.toList.map (fe t)++F,n8 (n8 ar Y) ap,ji (ji aB Z) ay,?_⟩;simp only[dq,W,resolve,av,Deferred.ofValue,ho,hp,hm,invoke];congr 2;simp
 have pure:∀(fr:eq)(k:List Item)(cs:List eq)(l:Array Oper)(i:Nat)(r:List Nat)(u:List Deferred)(ah aa E:Nat->Prop)(β:Bd)(s':St)(t:Array dp)(w:dz)(H1:Heap)(m:List dp)(vs:List PV)(v:PV),
  l[i]?=some o->hj o (yielded l t)=true->iC n o=true->cA P n ah aa β s' t w->(dq (fe t) o).run P w=(callFunc g m.toArray).run P w->
  bO P ah aa w β s'.heap E w β H1->bp P w E vs m->az P g vs v->
  ∃aD aH ai w',Steps P (lone (bu fr t u (.inRegion l (i::r)::k)) cs w) (lone (bu fr ai u (.inRegion l r::k)) cs w')/\
   cA P n ah aD aH ⟨put o.dst (.p v) s'.env,H1⟩ ai w'/\∀N,dA N ah aa w β s'.heap ah aD w' aH H1:=by
  intro fr k cs l i r u ah aa E β s' t w H1 m vs v q C B d O j af L;rcases L with⟨aq,L⟩|L
  ·rw[aq]at O;obtain⟨e,w',al,⟨R,aD,U,g1,g2,g3,g4,g5,am,g6⟩,aF,aw,V⟩:=L w E _ j.rel.bM j.rel.gU af (bu fr t u (.inRegion l (i::r)::k)::cs);subst U;have ae:=j.trans (j.rel.later g1 g2 g3 g4 g5 am);refine⟨aD,β,_,w',?_,d.put B ae (by simpa[au]using g6) (by simp[aC]),fun _=>ae.eM⟩;rw[<-mS q];exact(Steps.one (tY q C Q O)).trans (Steps.trans aF (.one (ej V)))
  ·obtain⟨R,y,z⟩:=L w E _ af;rw[y]at O;exact⟨E,β,_,w,.one (rI q C Q O (.inl rfl)),d.put B j (by simpa[au]using z) (by simp[aC]),fun _=>j.eM⟩
 rcases h with⟨vs,v,y,z,D⟩|⟨vs,bs,aj,aI,v,y,z,D,S⟩|⟨e,X,ad,T⟩|⟨aj,v,ao,ax,T⟩
 ·refine⟨_,D,by simp,by simp,?_⟩;intro fr k cs l i r u ah aa β s' t w q C B d A _ _;obtain⟨m,c1,c2,c3⟩:=M d A;rw[y]at c1;simp only[newAt,hG,ba];exact pure fr k cs l i r u ah aa aa β s' t w s'.heap m vs v q C B d c3 (bO.refl d.heap) (jb.1 c1) z
 ·obtain⟨i1,i2,i3⟩:=Ir bs z;refine⟨_,S,i1,i2,?_⟩;intro fr k cs l i r u ah aa β s' t w q C B d A J _;obtain⟨m,c1,c2,c3⟩:=M d A;obtain⟨E,ag,aE⟩:=GF bs z d.heap (fun p j=>⟨p.2,J p j,rfl⟩);simp only[newAt,hG];refine pure fr k cs l i r u ah aa E β s' t w _ m vs v q C B d c3 ag (H6 y ?_ d.heap c1 ag.bM aE) D;intro b ab;rw[<-i3]at ab;obtain⟨p,j,rfl⟩:=i4.1 ab;rw[J p j,i1 p j]
 ·refine⟨_,T,ad.1,ad.2,?_⟩;intro fr k cs l i r u ah aa β s' t w q C B d A J aP;obtain⟨m,c1,c2,c3⟩:=M d A;rw[X.1]at c3;obtain⟨x,w',al,⟨R,aH,aD,U,g1,g2,g3⟩,aF,aw,V⟩:=X.2 s'.heap w aa ah β _ d.heap c1 c2 J aP (bu fr t u (.inRegion l (i::r)::k)::cs);subst U;refine⟨aD,aH,_,w',?_,d.put B g1 g2 g3,fun _=>g1.eM⟩;rw[<-mS q];exact(Steps.one (tY q C Q c3)).trans (Steps.trans aF (.one (ej V)))
 ·refine⟨_,T,ax,by simp,?_⟩;intro fr k cs l i r u ah aa β s' t w q C B d A J aP;obtain⟨m,c1,c2,c3⟩:=M d A;obtain⟨R,y,D⟩:=ao s'.heap w aa ah β _ d.heap c1 c2 J;rw[y]at c3;have j:=bO.refl d.heap;simp only[newAt,hG,ba];exact⟨aa,β,_,w,.one (rI q C Q c3 (.inl rfl)),d.put B j (by simpa[au]using D) (by simp[aC]),fun _=>j.eM⟩
theorem Tv{o:Oper}{f:dk}{a:Array dk}{y:Array dl}{b:Nat}{e:aR}{s:St}
 (j:o.op=.call {callee:=.value f,args:=a,argTypes:=y})(hf:ev s.env f=.map b)(hY:sG P b (a.toList.map (ev s.env)) s.heap.length e):Act P n o s e:=by
 have G:∀c,o.op≠.defer c:=fun c hc=>by rw[j]at hc;cases hc
 have u:f∈o.op.operands/\∀x∈a.toList,x∈o.op.operands:=by
  rw[j];simp[g9,ge];exact fun x hx=>.inr hx
 intro fr k cs I i r z ah aa β s' t w v H C d m E aP;have h:=(nA d f).1;rw[m f u.1,hf]at h;simp only[au,bG,bK]at h;obtain⟨l,p⟩:=uh d a.toList;rw[LO (fun x hx=>m x (u.2 x hx))]at l p;obtain⟨F,g,tmps,assign,body,A,B⟩:=hY s'.heap w aa ah β _ d.heap l p E aP;have D:=h.2.2 F;have q:(dq (fe t) o).run P w=(Instr.yield (β.ak b) (a.toList.map (fe t)).toArray).run P w:=by
  simp only[dq,j,resolve,D,Deferred.ofValue,ho,hp,hm,invoke];congr 2;exact cc (by simp)
 rw[A]at q;obtain⟨J,w',aH,aD,g1,g2,g3,g4⟩:=B (bu fr t z (.inRegion I (i::r)::k)) cs;refine⟨aD,aH,_,w',?_,d.put C g2 g3 g4,fun _=>g2.eM⟩;rw[<-mS v];exact(Steps.one (G7 v H G q)).trans g1
theorem Ut(m:lh P ag){o:Oper}{K:aR->Prop}{s:St}(h:iT P ag o s K):
 ∃e,K e/\(∀p∈e.aj,s.heap[p.1]?=some p.2)/\(∀p∈e.aI,p.1<s.heap.length/\p.2≠.hole)/\Act P n o s e:=by
 have E:=RI h;have q:fc P ag o (ev s.env) s.heap K->∃e,K e/\(∀p∈e.aj,s.heap[p.1]?=some p.2)/\(∀p∈e.aI,p.1<s.heap.length/\p.2≠.hole)/\Act P n o s e:=by
  intro h;obtain⟨e,a,hs,aj,aI⟩:=m o _ _ _ (fun v=>rfl) h;refine⟨e,a,aj,aI,?_⟩;intro fr k cs L i r J ah aa β s' t w F G C d B D aP;obtain⟨nx,I,w',aH,aD,u,y,j,z,A⟩:=hs s'.heap w aa ah β (fe t) d.heap (fun x hx=>by rw[<-B x hx];exact nA d x) D aP;exact⟨aD,aH,_,w',.one (rI F G E u y),d.put C j z A,fun _=>j.eM⟩
 unfold iT at h
 split at h
 ·rename_i f args H c
  split at h
  ·rename_i g fi ca hf;exact Jq c (.inr ⟨fi,ca,hf,rfl,rfl⟩) h
  ·rename_i g fi ca hf;exact Jq c (.inl hf) h
  ·rename_i b hf;obtain⟨e,hY,l,a⟩:=h;exact⟨e,a,l.1,l.2,Tv c hf hY⟩
  ·exact h.elim
 ·exact q h
end
section
variable{P:ea}{ag:ee->Bool}{n:Nat}
def looks(a:Array Oper)(o:Oper):List Tmp:=
 (o.op.operands.toList.filterMap fun x=>match x with
  | .tmp t=>some t
  |_=>none)++(match o.guard with
  |some (j,_)=>(match(a[j]?).bind (·.dst)with
   |some d=>[d]
   |none=>[])
  |none=>[])
def pK(c:Array Oper)(a b:Oper):Bool:=
 (match a.dst with
  |some d=>(looks c b).contains d||b.dst==some d
  |none=>false)||
 (match b.dst with
  |some d=>(looks c a).contains d
  |none=>false)
def fit(_:Nat)(a:Array Oper):Bool:=
 (i6 a.size).all fun j=>match a[j]? with
  |some o=>o.after.toList.all (fun e=>!hl .any e||decide (e.on<j))&&
   (i6 j).all (fun i=>match a[i]? with
    |some u=>!pK a u o||reach a a.size i j
    |none=>true)
  |none=>true
structure Cp(P:ea)(n:Nat)(ops:Array Oper)(o:Oper)(s:St)(e:aR):Prop where
 aj:∀p∈e.aj,s.heap[p.1]?=some p.2
 aI:∀p∈e.aI,p.1<s.heap.length
 act:(∀(t:Array dp)(s':St)(ah aa:Nat->Prop)(β:Bd)(w:dz),cA P n ah aa β s' t w->(∀x∈looks ops o,aK s'.env x=aK s.env x)->hj o (yielded ops t)=true)/\Act P n o s e\/
  (∀(t:Array dp)(s':St)(ah aa:Nat->Prop)(β:Bd)(w:dz),cA P n ah aa β s' t w->(∀x∈looks ops o,aK s'.env x=aK s.env x)->hj o (yielded ops t)=false)/\e={v:=.p (.aE [])}
inductive Tr(P:ea)(n:Nat)(ops:Array Oper):List Oper->Nat->St->List (St×aR)->St->Prop
 |nil (i:Nat) (s:St):Tr P n ops [] i s [] s
 |cons {o:Oper} {r:List Oper} {i:Nat} {s s':St} {e:aR} {es:List (St×aR)}:Cp P n ops o s e->Tr P n ops r (i+1) (e.app o.dst s) es s'->Tr P n ops (o::r) i s ((s,e)::es) s'
def oC(i:Nat):List (St×aR)->List Touch->List Touch
 |[],acc=>acc
 |(s,e)::r,acc=>oC (i+1) r (gC i s.heap.length e acc)
theorem zY{a:Array Oper}{o:Oper}{j:Nat}{f:Bool}(c:o.guard=some (j,f)){e e':Env}(h:∀x∈looks a o,aK e' x=aK e x):guardOf a j e'=guardOf a j e:=by
 unfold guardOf;cases b:(a[j]?).bind (·.dst)with
 |none=>rfl
 |some d=>
  simp only;exact h d (by simp[looks,c,b])
theorem IP(B:lh P ag){a:Array Oper}(q:∀o∈a.toList,iC n o=true):∀(l:List Oper)(i:Nat)(d:List Touch)(s:St){K:St->Prop},(∀o∈l,o∈a.toList)->fM P ag a l i d K s->
 ∃c s',Tr P n a l i s c s'/\K s'/\jG a (oC i c d)=true
 |[],i,d,s,K,_,h=>⟨[],s,.nil i s,h.2,h.1⟩
 |o::l,i,d,s,K,F,h=>by
  have C:=fun d s(h:fM P ag a l (i+1) d K s)=>IP B q l (i+1) d s (fun o G=>F o (by simp[G])) h
  have skip:fM P ag a l (i+1) d K ⟨put o.dst (.p (.aE [])) s.env,s.heap⟩->(∀(t:Array dp)(s':St)(ah aa:Nat->Prop)(β:Bd)(w:dz),cA P n ah aa β s' t w->(∀x∈looks a o,aK s'.env x=aK s.env x)->hj o (yielded a t)=false)->
   ∃c s',Tr P n a (o::l) i s c s'/\K s'/\jG a (oC i c d)=true:=by
   intro hk A;obtain⟨c,s',r,u,y⟩:=C _ _ hk;refine⟨(s,{v:=.p (.aE [])})::c,s',.cons ⟨by simp,by simp,.inr ⟨A,rfl⟩⟩ ?_,u,by simpa[oC,gC]using y⟩;simpa[aR.app,ba]using r
  have go:iT P ag o s (fun e=>fM P ag a l (i+1) (gC i s.heap.length e d) K (e.app o.dst s))->(∀(t:Array dp)(s':St)(ah aa:Nat->Prop)(β:Bd)(w:dz),cA P n ah aa β s' t w->(∀x∈looks a o,aK s'.env x=aK s.env x)->hj o (yielded a t)=true)->
   ∃c s',Tr P n a (o::l) i s c s'/\K s'/\jG a (oC i c d)=true:=by
   intro hk A;obtain⟨e,D,aj,aI,E⟩:=Ut (n:=n) B hk;obtain⟨c,s',r,u,y⟩:=C _ _ D;exact⟨(s,e)::c,s',.cons ⟨aj,fun p H=>(aI p H).1,.inl ⟨A,E⟩⟩ r,u,by simpa[oC]using y⟩
  simp only[fM]at h
  split at h
  ·rename_i f;exact go h (fun _ _ _ _ _ _ _ _=>by simp[hj,f])
  ·rename_i j I f
   split at h
   ·rename_i b m
    split at h
    ·rename_i z;refine go h (fun t s' ah aa β w k g=>?_);obtain⟨g1,g2⟩:=wR k q j;rw[zY f g]at g1;simp[hj,f,g1 _ m,z]
    ·rename_i z;refine skip h (fun t s' ah aa β w k g=>?_);obtain⟨g1,g2⟩:=wR k q j;rw[zY f g]at g1;simp[hj,f,g1 _ m,z]
   ·rename_i m;refine skip h (fun t s' ah aa β w k g=>?_);obtain⟨g1,g2⟩:=wR k q j;rw[zY f g]at g2;simp[hj,f,g2 m]
   ·exact h.elim
def uY(a:Array Oper)(D:Nat->Prop):Prop:=∀j o,a[j]?=some o->D j->∀e∈o.after,hl .any e=true->D e.on
theorem Ah{c:Array Oper}{D:Nat->Prop}(hc:uY c D):∀(f i j:Nat),reach c f i j=true->(∀o,c[j]?=some o->∀e∈o.after,hl .any e=true->D e.on)->D i
 |0,_,_,h,_=>by simp[reach]at h
 |f+1,i,j,h,d=>by
  simp only[reach]at h
  split at h
  case h_2=>simp at h
  rename_i o g;simp only[c9,hQ,db,beq_iff_eq,decide_eq_true_eq]at h;rcases h with⟨e,b,a,rfl⟩|⟨e,b,⟨a,_⟩,k⟩
  ·exact d o g e (by simpa using b) a
  ·have m:=d o g e (by simpa using b) a;exact Ah hc f i e.on k (fun o' p e' n l=>hc _ o' p m e' n l)
end
section
variable{P:ea}{ag:ee->Bool}{n:Nat}
theorem rP(a:Nat)(l:List Obj):(newAt a l).map (·.1)=nv a l:=by
 induction l generalizing a with
 |nil=>rfl
 |cons o l b=>simp[newAt,nv,b]
theorem Ga{a b:Nat}{l:List Obj}:b∈nv a l↔a<=b/\b<a+l.length:=by
 induction l generalizing a with
 |nil=>simp[nv]
 |cons o l c=>simp only[nv,hH,c,List.length_cons];omega
theorem w8{l:List (Nat×Obj)}{b:Nat}(h:b∉l.map (·.1)):∀H:Heap,(ba H l)[b]?=H[b]?:=by
 induction l with
 |nil=>intro H;rfl
 |cons p l a=>
  obtain⟨c,o⟩:=p;intro H;simp only[hF,hH,not_or]at h;simp only[ba];rw[a h.2,hK (Ne.symm h.1)]
theorem S1{l:List (Nat×Obj)}{b:Nat}(h:b∈l.map (·.1)):∀H H':Heap,H.length=H'.length->(ba H l)[b]?=(ba H' l)[b]?:=by
 induction l with
 |nil=>simp at h
 |cons p l f=>
  obtain⟨c,o⟩:=p;intro H H' d;simp only[ba]
  by_cases a:b∈l.map (·.1)
  ·exact f a _ _ (by simp[d])
  ·rw[w8 a,w8 a];simp only[hF,hH]at h;have:b=c:=h.resolve_right a;subst this
   by_cases e:b<H.length
   ·rw[hC e,hC (by omega)]
   ·rw[hX (by simp;omega),hX (by simp;omega)]
def cT(es:List (St×aR))(s':St)(k:Nat):St:=match es[k]? with
 |some (s,_)=>s
 |none=>s'
def ff(es:List (St×aR))(k:Nat):aR:=match es[k]? with
 |some (_,e)=>e
 |none=>{v:=.p .undef}
theorem Tr.at{a:Array Oper}:∀{l:List Oper}{i:Nat}{s s':St}{es:List (St×aR)},Tr P n a l i s es s'->es.length=l.length/\cT es s' 0=s/\
 ∀k o,l[k]?=some o->Cp P n a o (cT es s' k) (ff es k)/\cT es s' (k+1)=(ff es k).app o.dst (cT es s' k)
 |_,_,_,_,_,.nil i s=>⟨rfl,rfl,fun k o h=>by simp at h⟩
 |_,_,_,_,_,.cons (o:=o) (r:=r) (i:=i) (s:=s) (s':=s') (e:=e) (es:=es) hi d=>by
  obtain⟨h1,b,c⟩:=d.at;refine⟨by simp[h1],rfl,fun k o' hk=>?_⟩;cases k with
  |zero=>
   simp at hk;subst hk;refine⟨by simpa[cT,ff]using hi,?_⟩;have:cT ((s,e)::es) s' (0+1)=cT es s' 0:=by simp[cT]
   rw[this,b];simp[cT,ff]
  |succ k=>
   have e1:∀m,cT ((s,e)::es) s' (m+1)=cT es s' m:=fun m=>by simp[cT]
   have e2:ff ((s,e)::es) (k+1)=ff es k:=by simp[ff]
   rw[e1,e1,e2];exact c k o' (by simpa using hk)
theorem RU(u:Touch)(i:Nat):iN u ⟨i,[],[]⟩=false:=by
 simp[iN]
theorem Rx(i b:Nat)(e:aR)(a:List Touch):(gC i b e a=a/\gN i b e=⟨i,[],[]⟩)\/gC i b e a=gN i b e::a:=by
 unfold gC
 split
 ·rename_i c d f;exact .inl ⟨rfl,by simp[gN,c,d,f,nv]⟩
 ·exact .inr rfl
theorem G6{c:Array Oper}:∀(g:List (St×aR))(i:Nat)(d:List Touch),jG c (oC i g d)=true->jG c d=true/\
 (∀u∈d,∀b s e,g[b]?=some (s,e)->iN u (gN (i+b) s.heap.length e)=true->reach c c.size u.i (i+b)=true)/\
 (∀a b s e f e2,a<b->g[a]?=some (s,e)->g[b]?=some (f,e2)->iN (gN (i+a) s.heap.length e) (gN (i+b) f.heap.length e2)=true->reach c c.size (i+a) (i+b)=true)
 |[],i,d,h=>⟨h,by simp,by simp⟩
 |(s,e)::g,i,d,h=>by
  simp only[oC]at h;obtain⟨j,m,r⟩:=G6 g (i+1) _ h
  have key:jG c d=true/\(∀u∈d,iN u (gN i s.heap.length e)=true->reach c c.size u.i i=true)/\(∀u∈d,∀b s e,g[b]?=some (s,e)->iN u (gN (i+1+b) s.heap.length e)=true->reach c c.size u.i (i+1+b)=true)/\
   (∀b f e2,g[b]?=some (f,e2)->iN (gN i s.heap.length e) (gN (i+1+b) f.heap.length e2)=true->reach c c.size i (i+1+b)=true):=by
   rcases Rx i s.heap.length e d with⟨o,q⟩|o
   ·rw[o]at j m;refine⟨j,fun u _ hc=>?_,m,fun b f e2 _ hc=>?_⟩
    ·rw[q,RU]at hc;cases hc
    ·rw[q]at hc;simp[iN]at hc
   ·rw[o]at j m;simp only[jG,db,ip]at j;refine⟨j.2,fun u l hc=>?_,fun u l=>m u (by simp[l]),m _ (by simp)⟩;have:=j.1 u l;rw[hc]at this;exact(by simpa using this:reach c c.size u.i (gN i s.heap.length e).i=true)
  obtain⟨k1,k2,k3,k4⟩:=key;refine⟨k1,?_,?_⟩
  ·intro u l b p e1 k hc;cases b with
   |zero=>simp at k;obtain⟨rfl,rfl⟩:=k;exact k2 u l hc
   |succ b=>
    have:=k3 u l b p e1 (by simpa using k);rw[show i+(b+1)=i+1+b by omega]at hc⊢;exact this hc
  ·intro a b p e1 f e2 t n k hc;cases b with
   |zero=>omega
   |succ b=>
    rw[show i+(b+1)=i+1+b by omega]at hc⊢;cases a with
    |zero=>
     simp at n;obtain⟨rfl,rfl⟩:=n;exact k4 b f e2 (by simpa using k) hc
    |succ a=>
     rw[show i+(a+1)=i+1+a by omega]at hc⊢;exact r a b p e1 f e2 (by omega) (by simpa using n) (by simpa using k) hc
end
section
variable{P:ea}{ag:ee->Bool}{n:Nat}
def hx(N:Nat)(s:St):Heap:=s.heap++hE (N-s.heap.length) .hole
def tA(a:Nat)(e:aR):List Nat:=(e.aI++newAt a e.aP).map (·.1)
theorem X5{N:Nat}{s:St}{e:aR}{o:Oper}(aI:∀p∈e.aI,p.1<s.heap.length)(d:(e.app o.dst s).heap.length<=N):hx N (e.app o.dst s)=ba (hx N s) (e.aI++newAt s.heap.length e.aP):=by
 have b:(e.app o.dst s).heap=ba s.heap e.aI++e.aP:=rfl;have f:(e.app o.dst s).heap.length=s.heap.length+e.aP.length:=by rw[b];simp[nY]
 unfold hx;rw[b];have c:N-s.heap.length=e.aP.length+(N-(s.heap.length+e.aP.length)):=by omega
 rw[c,<-List.replicate_append_replicate,<-hO,wz _ _ _ (by
  intro p a;rcases ix.1 a with a|a
  ·have:=aI p a;simp;omega
  ·have:p.1∈(newAt s.heap.length e.aP).map (·.1):=List.mem_map_of_mem a
   rw[rP,Ga]at this;simp;omega)]
 rw[zV,wz _ _ _ aI];have:=Ag (ba s.heap e.aI) e.aP;rw[nY]at this;rw[this];congr 2;simp[nY]
section sched
variable{ops:Array Oper}{es:List (St×aR)}{s0 s':St}
structure iD(P:ea)(n:Nat)(ops:Array Oper)(es:List (St×aR))(s':St):Prop where
 len:es.length=ops.size
 at_:∀k o,ops[k]?=some o->Cp P n ops o (cT es s' k) (ff es k)/\cT es s' (k+1)=(ff es k).app o.dst (cT es s' k)
 dst:∀o∈ops.toList,iC n o=true
 lower:∀j o,ops[j]?=some o->∀e∈o.after,hl .any e=true->e.on<j
 tmps:∀i j u o,i<j->ops[i]?=some u->ops[j]?=some o->pK ops u o=true->reach ops ops.size i j=true
 heap:∀i j,i<j->j<ops.size->iN (gN i (cT es s' i).heap.length (ff es i)) (gN j (cT es s' j).heap.length (ff es j))=true->reach ops ops.size i j=true
def wr(a:List (St×aR))(s':St)(i:Nat):List Nat:=tA (cT a s' i).heap.length (ff a i)
structure At(ops:Array Oper)(es:List (St×aR))(s':St)(D:Nat->Prop)(s:St):Prop where
 tmp:∀x,∃k,k<=ops.size/\aK s.env x=aK (cT es s' k).env x/\∀i o,ops[i]?=some o->o.dst=some x->(D i↔i<k)
 len:s.heap.length=s'.heap.length
 heap:∀b,∃k,k<=ops.size/\s.heap[b]?=(hx s'.heap.length (cT es s' k))[b]?/\∀i,i<ops.size->b∈wr es s' i->(D i↔i<k)
variable(h:iD P n ops es s')
include h
theorem iD.mono:∀{k m:Nat},k<=m->m<=ops.size->(cT es s' k).heap.length<=(cT es s' m).heap.length:=by
 intro k m e f
 induction m with
 |zero=>
  obtain rfl:k=0:=by omega
  exact i7 _
 |succ m c=>
  by_cases hk:k=m+1
  ·subst hk;exact i7 _
  ·have d:=c (by omega) (by omega);have b:ops[m]?=some ops[m]:=cv (by omega);obtain⟨_,a⟩:=h.at_ m _ b;rw[a];simp only[aR.app,hD,nY];omega
theorem iD.last:cT es s' ops.size=s':=by
 have:es[ops.size]?=none:=hX (by rw[h.len];exact i7 _);simp[cT,this]
theorem iD.vw{k:Nat}(hk:k<=ops.size):(cT es s' k).heap.length<=s'.heap.length:=by
 have:=h.mono hk (i7 _)
 rwa [h.last]at this
theorem iD.gG{k:Nat}(hk:k<ops.size):hx s'.heap.length (cT es s' (k+1))=ba (hx s'.heap.length (cT es s' k)) ((ff es k).aI++newAt (cT es s' k).heap.length (ff es k).aP):=by
 have c:ops[k]?=some ops[k]:=cv hk;obtain⟨h1,b⟩:=h.at_ k _ c;have a:=h.vw (k:=k+1) hk;rw[b]at a⊢;exact X5 h1.aI a
theorem X4{k:Nat}(hk:k<=ops.size):(hx s'.heap.length (cT es s' k)).length=s'.heap.length:=by
 have:=h.vw hk;simp[hx];omega
theorem iD.IQ{x:Nat}:∀{k m:Nat},k<=m->m<=ops.size->(∀i o,k<=i->i<m->ops[i]?=some o->o.dst≠some x)->aK (cT es s' m).env x=aK (cT es s' k).env x:=by
 intro k m j
 induction m with
 |zero=>
  intro _ _;obtain rfl:k=0:=by omega
  rfl
 |succ m g=>
  intro l d
  by_cases hk:k=m+1
  ·subst hk;rfl
  ·have e:=g (by omega) (by omega) (fun i o a b=>d i o a (by omega));have c:ops[m]?=some ops[m]:=cv (by omega);obtain⟨_,f⟩:=h.at_ m _ c;rw[f];simp only[aR.app,uf];rw[if_neg (d m _ (by omega) (by omega) c)];exact e
theorem iD.Il{b:Nat}:∀{k m:Nat},k<=m->m<=ops.size->(∀i,k<=i->i<m->b∉wr es s' i)->(hx s'.heap.length (cT es s' m))[b]?=(hx s'.heap.length (cT es s' k))[b]?:=by
 intro k m f
 induction m with
 |zero=>
  intro _ _;obtain rfl:k=0:=by omega
  rfl
 |succ m e=>
  intro g c
  by_cases hk:k=m+1
  ·subst hk;rfl
  ·have d:=e (by omega) (by omega) (fun i a b=>c i a (by omega));rw[h.gG (by omega),w8 (c m (by omega) (by omega))];exact d
theorem iD.J3{x:Nat}{k m:Nat}(hk:k<=ops.size)(g:m<=ops.size)(f:∀i o,ops[i]?=some o->o.dst=some x->(i<k↔i<m)):aK (cT es s' m).env x=aK (cT es s' k).env x:=by
 rcases j6 k m with d|d
 ·exact h.IQ d g fun i o a b e c=>by have:=f i o e c;omega
 ·exact(h.IQ d hk fun i o a b e c=>by have:=f i o e c;omega).symm
theorem iD.JO{b:Nat}{k m:Nat}(hk:k<=ops.size)(g:m<=ops.size)(f:∀i,i<ops.size->b∈wr es s' i->(i<k↔i<m)):(hx s'.heap.length (cT es s' m))[b]?=(hx s'.heap.length (cT es s' k))[b]?:=by
 rcases j6 k m with e|e
 ·exact h.Il e g fun i a c d=>by have:=f i (by omega) d;omega
 ·exact(h.Il e hk fun i a c d=>by have:=f i (by omega) d;omega).symm
variable{D:Nat->Prop}(hc:uY ops D)
include hc
theorem iD.order{i:Nat}{o:Oper}(k:ops[i]?=some o)(h:¬D i)(l:∀e∈o.after,hl .any e=true->D e.on):
 (∀j,j<i->reach ops ops.size j i=true->D j)/\(∀j,j<ops.size->i<j->reach ops ops.size i j=true->¬D j):=by
 constructor
 ·intro j g b;exact Ah hc _ _ _ b (fun o' a=>by rw[k]at a;cases a;exact l)
 ·intro j m g b d;exact h (Ah hc _ _ _ b (fun o' a e f c=>hc j o' a d e f c))
theorem iD.reads{i:Nat}{o:Oper}(l:ops[i]?=some o)(q:¬D i)(y:∀e∈o.after,hl .any e=true->D e.on){s:St}(t:At ops es s' D s):
 (∀x∈looks ops o,aK s.env x=aK (cT es s' i).env x)/\(∀b,b∈(ff es i).aj.map (·.1)\/b∈wr es s' i->s.heap[b]?=(hx s'.heap.length (cT es s' i))[b]?):=by
 obtain⟨v,w⟩:=h.order hc l q y;have hi:i<ops.size:=(cb.1 l).1;constructor
 ·intro x hx;obtain⟨k,k1,k2,k3⟩:=t.tmp x;rw[k2];refine h.J3 (by omega) k1 fun j u m p=>?_;have g:j<ops.size:=(cb.1 m).1;rw[<-k3 j u m p];constructor
  ·intro a;refine v j a (h.tmps j i u o a m l ?_);simp[pK,p,hx]
  ·intro f;rcases i9 j i with a|rfl|a
   ·exact a
   ·exact(q f).elim
   ·exact(w j g a (h.tmps i j o u a l m (by simp[pK,p,hx])) f).elim
 ·intro b c;obtain⟨k,k1,k2,k3⟩:=t.heap b;rw[k2];refine h.JO (by omega) k1 fun j g n=>?_;rw[<-k3 j g n];have r:b∈(gN j (cT es s' j).heap.length (ff es j)).wr:=by
   unfold wr tA at n;rw[hM,rP]at n;exact n
  have d:b∈(gN i (cT es s' i).heap.length (ff es i)).rd\/b∈(gN i (cT es s' i).heap.length (ff es i)).wr:=by
   rcases c with c|c
   ·exact .inl c
   ·unfold wr tA at c;rw[hM,rP]at c;exact .inr c
  constructor
  ·intro a;refine v j a (h.heap j i a hi ?_);simp only[iN,c9,hQ,hP];exact .inl ⟨b,r,d⟩
  ·intro f;rcases i9 j i with a|rfl|a
   ·exact a
   ·exact(q f).elim
   ·refine(w j g a (h.heap i j a g ?_) f).elim;simp only[iN,c9,hQ,hP];rcases d with d|d
    ·exact .inr ⟨b,d,r⟩
    ·exact .inl ⟨b,d,.inr r⟩
theorem iD.next{i:Nat}{o:Oper}(l:ops[i]?=some o)(z:¬D i)(A:∀e∈o.after,hl .any e=true->D e.on){s:St}(p:At ops es s' D s):
 At ops es s' (fun j=>D j\/j=i) ⟨put o.dst (ff es i).v s.env,ba s.heap ((ff es i).aI++newAt (cT es s' i).heap.length (ff es i).aP)⟩:=by
 obtain⟨w,y⟩:=h.order hc l z A;have hi:i<ops.size:=(cb.1 l).1;obtain⟨B,gG⟩:=h.at_ i o l;refine⟨fun x=>?_,by simp only[nY];exact p.len,fun b=>?_⟩
 ·by_cases hx:o.dst=some x
  ·refine⟨i+1,hi,?_,fun j u d n=>?_⟩
   ·rw[gG];simp[aR.app,uf,hx]
   ·have g:j<ops.size:=(cb.1 d).1;constructor
    ·rintro(c|rfl)
     ·rcases i9 j i with a|rfl|a
      ·omega
      ·omega
      ·exact(y j g a (h.tmps i j o u a l d (by simp[pK,n,hx])) c).elim
     ·omega
    ·intro a
     by_cases q:j=i
     ·exact .inr q
     ·exact .inl (w j (by omega) (h.tmps j i u o (by omega) d l (by simp[pK,n,hx])))
  ·obtain⟨k,k1,k2,k3⟩:=p.tmp x;refine⟨k,k1,?_,fun j u d n=>?_⟩
   ·simp only[uf];rw[if_neg hx];exact k2
   ·rw[<-k3 j u d n];constructor
    ·rintro(c|rfl)
     ·exact c
     ·rw[l]at d;cases d;exact(hx n).elim
    ·exact .inl
 ·by_cases f:b∈wr es s' i
  ·refine⟨i+1,hi,?_,fun j g m=>?_⟩
   ·rw[h.gG hi];exact S1 f _ _ (by rw[X4 h (by omega)];exact p.len)
   ·have t:b∈(gN j (cT es s' j).heap.length (ff es j)).wr:=by
     unfold wr tA at m;rw[hM,rP]at m;exact m
    have r:b∈(gN i (cT es s' i).heap.length (ff es i)).wr:=by
     unfold wr tA at f;rw[hM,rP]at f;exact f
    constructor
    ·rintro(c|rfl)
     ·rcases i9 j i with a|rfl|a
      ·omega
      ·omega
      ·refine(y j g a (h.heap i j a g ?_) c).elim;simp only[iN,c9,hQ,hP];exact .inl ⟨b,r,.inr t⟩
     ·omega
    ·intro a
     by_cases q:j=i
     ·exact .inr q
     ·refine .inl (w j (by omega) (h.heap j i (by omega) hi ?_));simp only[iN,c9,hQ,hP];exact .inl ⟨b,t,.inr r⟩
  ·obtain⟨k,k1,k2,k3⟩:=p.heap b;refine⟨k,k1,?_,fun j g m=>?_⟩
   ·simp only;rw[w8 f];exact k2
   ·rw[<-k3 j g m];constructor
    ·rintro(c|rfl)
     ·exact c
     ·exact(f m).elim
    ·exact .inl
end sched
end
end Go.aw
