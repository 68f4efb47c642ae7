import Derived.Test.YtenbmieafgdjaaaGreatDoorRThB
import Derived.Laws.StructEq
import Derived.Laws.Concat
import Derived.ChangeKeysEq
import Derived.MapKept
import Derived.Laws.RangeString
import Derived.Lib.UnsafeStr
import Derived.Laws.BytesArg
import Derived.Orders
/- Parts of a proof. -/
set_option linter.unusedSimpArgs false
set_option linter.unusedVariables false
set_option linter.unusedSectionVars false
open Array renaming getElem?_eq_some_iff->b5, ext'->cb, getElem?_toList->cc, length_toList->ce, getElem?_eq_getElem->ck, toList_push->cv, getElem?_push->cx, getD->cy
open Bool renaming or_eq_true->c6, false_eq_true->c9, and_eq_true->da
open Go renaming run_underlying->db, Operand->dg, TypeId->dk, Value->dl, execOp->dp, World->dq, Program->dz, MapEntry->ea, setRow_other->eb, setRow_heap->ec, FuncId->ed, Field->ee, step_leave_returned->ei, run_storeCells_at->ej, TypeDesc->em, IntKind->en, Frame->eo
open Go.Builtin renaming firstCells->eq, clear_->ew, unsafeString_->ey, zeroCells->e6, copy_->e7, min2->e8, max2->e9, unsafeSliceData_->fb, min_->fd, max_->fl, lenOf->fm, cap_->fv
open Go.ByteArray renaming toList_eq->fV
open Go.Call renaming operands->gb
open Go.Instr renaming findNow->gc, findAsking->ge, checkKey->gg, findKey->gi, mapUpdate->gj, lookup->gm, sameNow->gt, next->gx
open Go.MapKept renaming run_getObj_map->gy, bytes_beq->gA
open Go.Op renaming operands->g0, equalIn->g7, equal->g8, bytesLess->g9, eqFields->ha, eqItems->hb, stringOp->hd
open Go.Region renaming wanted->he, binds->hg
open Go.Result renaming andThen_ok->hh, andThen->hj
open Go.Sem renaming run_bind->hl, run_pure->hm, run->hn
open Go.Utf8 renaming decode->ho
open Go.Value renaming oneCell'->hp, int->hr
open Go.World renaming freeze->ht, cell?->hv
open List renaming getElem?_eq_some_iff->hw, getElem?_set_self->hz, length_append->hA, replicate->hB, map_cons->hC, append_nil->hD, mem_cons->hE, mem_cons_of_mem->hF, getElem?_set_ne->hG, mem_of_mem_take->hH, map_append->hK, size_toArray->hL, append_assoc->hM, contains_iff_mem->hN, any_eq_true->hO, mem_of_mem_drop->hP, map_toArray->hQ, length_eq_zero_iff->hR, take_of_length_le->hS, map_nil->hT, map_map->hU, getElem?_eq_none->hV, replicate_succ->hW, map_congr_left->hX, length_pos_iff->hZ, flatten_append->h0, mem_singleton->h2, getElem?_map->h3, length->h4, nil_append->h5, drop_zero->h6, getElem?_append_left->h7, getElem?_eq_getElem->h8, map->h9, take_succ_cons->ih, all_eq_true->ii, mem_append->ik, length_map->ip, sum_cons->ix, mem_map->iz, map_id->iL, range->i0
open Nat renaming le_refl->i4, lt_irrefl->i5, lt_trichotomy->i6, add_zero->i7, le_add_right->i8, zero_add->i9, add_mul->jp, zero_mul->js, succ_mul->j1, ne_of_lt->j2, le_total->j3
open Option renaming isSome_iff_exists->j4
open PUnit renaming unit->j5
open UInt8 renaming toNat_ofNat'->j6, toNat_inj->j7, ofNat->j8
namespace Go.aj
set_option linter.unusedSectionVars false
variable[Gl]
section
variable{P:dz}{w:dq}{ad ah:Nat->Prop}{β:Bd}{H:Heap}
variable{o:Oper}{ρ:dg->AV}{base:Nat}
theorem xt{c:Call}{s x:dg}(D:o.op= .call c)(hc:c.callee= .builtin .append)(y:c.args.toList=[s,x]){T X e:dk}(I:c.argTypes=#[T,X]){i:TypeInfo}{j:dl}{sz:Nat}(u:qq P T sz e i)(v:iu P X=true)
 (L:i.zero=some j)(M:j.cells.size=sz)(F:bP P w ad β H ah){g:dg->dl}{p:Option Addr}{b f:Nat}{olds a:List AV}{ocss:List (List dl)}(hs:g s=.slice p b f)(m:olds.length=b)(l:Row P w ad β H sz olds ocss)(E:aR (aG H) olds)
 (C:(eq sz b (.slice p b f)).run P w.drew=.ok ocss.flatten.toArray w.drew)
 (hx:gL H (ρ x)=some a)(K:au P w ad β H (ρ x) (g x))(J:aC (aG H) (ρ x))(G:fc P sz a)(A:f<b+a.length)(B:b+a.length<=cO):
 ∃cap cells d N,(dp g o).run P w=.ok (.value (.slice (some ⟨w.heap.size,0,none⟩) (b+a.length) cap)) {w.drew with heap:=w.heap.push (.cells cells e)}/\
  Row P w ad β H sz (olds++a) d/\aR (aG H) (olds++a)/\cells.toList=d.flatten++N/\cells.size=cap*sz/\(olds++a).length<=cap:=by
 obtain⟨d,h,q,r,t⟩:=vw hx F K J G;have k:=t w.drew rfl a.length (i4 _);have O:d.length=a.length:=(fK h).1;rw[hS (by omega)]at k;obtain⟨cap,z,n⟩:=Vh u v L o.type (sLen:=b) (sCap:=f) (p:=p) (g x) r C k A B;rw[<-I,<-hs]at n;refine⟨cap,_,ocss++d,(e6 j.cells (cap-(b+a.length))).toList,xG D hc y n,ld.2 ⟨_,_,rfl,l,h⟩,jB E q,by simp,?_,by simpa[m]using z⟩;have e1:=(fK l).2;have e2:=(fK h).2;simp only[Array.size_append,hL,Iv,M,e1,e2,m,<-jp];congr 1;omega
theorem tO{T:dk}:gk P T≠.frozen/\gk P T≠.exact:=by
 unfold gk;split<;>simp
theorem DY{T e:dk}(h:et P T=e)(hk:gk P T=.bytes):e=Gl.u8:=by
 unfold gk at hk
 split at hk
 ·rename_i a;rw[<-h];exact a
 ·cases hk
theorem BP{_o':Obj}{k:AK}{a:List AV}{b:List (List dl)}{r:List dl}{cells:Array dl}{e:dk}{cap sz:Nat}(j:bP P w ad β H ah)(c:H[base]?=some .hole)
 (g:k≠.frozen)(i:¬cX k a)(m:Row P w ad β H sz a b)(d:aR (aG H) a)(hc:cells.toList=b.flatten++r)(o:cells.size=cap*sz)(h:a.length<=cap)(f:k=.exact->cap=a.length)(p:k=.bytes->e=Gl.u8):
 bR P ah ad w β H ad {w.drew with heap:=w.heap.push (.cells cells e)} (β.at base w.heap.size cap) (bm H ([]++newAt base [.arr k 0 sz a]))/\
 au P {w.drew with heap:=w.heap.push (.cells cells e)} ad (β.at base w.heap.size cap) (bm H ([]++newAt base [.arr k 0 sz a])) (.sl base 0 sz 0 a.length) (.slice (some ⟨w.heap.size,0,none⟩) a.length cap)/\
 aC (aG (bm H ([]++newAt base [.arr k 0 sz a]))) (.sl base 0 sz 0 a.length):=by
 have l:bP P w.drew ad β H ah:=bP.vg (w:=w) (w':=w.drew) rfl j;have n:Row P w.drew ad β H sz a b:=Row.mono (w:=w) (w':=w.drew) (fun _ x=>x) (fun _ _=>rfl) (b9.refl _ _) d m;obtain⟨q1,q⟩:=xT (T:=e) (k:=k) l c g i n d hc o h f p;rw[lH];exact⟨bR.drew (w1:=w.drew) rfl ⟨rfl,rfl⟩ q1,q,⟨_,hz (hw.1 c).1,i4 _⟩⟩
theorem KK{b:Nat}{k k':AK}{ar ai:Nat}{i es':List AV}{al cap:Nat}(f:H[b]?=some (.arr k ar ai i)):b9 β H (β.at b al cap) (H.set b (.arr k' (ar+1) ai es')):=by
 have j:b<H.length:=(hw.1 f).1;have c:∀x,x≠b->(H.set b (.arr k' (ar+1) ai es'))[x]?=H[x]?:=fun x hx=>hG (Ne.symm hx);have a:(H.set b (.arr k' (ar+1) ai es'))[b]?=some (.arr k' (ar+1) ai es'):=hz j;refine⟨?_,?_,?_,?_,?_⟩
 ·rintro x _ ⟨fz,t,h⟩
  by_cases hx:x=b
  ·subst hx;rw[a]at h;cases h
  ·rw[c x hx]at h;exact⟨⟨fz,t,h⟩,by simp[Bd.at,hx]⟩
 ·rintro x _ ⟨fz,t,h⟩
  by_cases hx:x=b
  ·subst hx;rw[a]at h;cases h
  ·rw[c x hx]at h;exact⟨⟨fz,t,h⟩,by simp[Bd.at,hx]⟩
 ·rintro x _ ⟨n,h,e⟩
  by_cases hx:x=b
  ·subst hx;rw[a]at h;cases h;exact e.elim
  ·rw[c x hx]at h;exact⟨⟨n,h,e⟩,by simp[Bd.at,hx]⟩
 ·intro x v z m g hi h;unfold eD at h
  by_cases hx:x=b
  ·subst hx;rw[a]at h;cases h;obtain⟨o,d,l⟩:=hi;simp only at d;rw[f]at d;cases d;simp only[Obj.has]at l;omega
  ·rw[c x hx]at h;exact⟨m,g,h,i4 _,Iff.rfl,fun _=>by simp[Bd.at,hx]⟩
 ·rintro x _ ⟨L,h⟩
  by_cases hx:x=b
  ·subst hx;rw[a]at h;cases h
  ·rw[c x hx]at h;exact⟨⟨L,h⟩,by simp[Bd.at,hx]⟩
theorem Bd.VV(β:Bd)(b:Nat):β.at b (β.al b) (β.cap b)=β:=by
 cases β with
 |mk al cap=>
  simp only[Bd.at,Bd.mk.injEq];constructor
  ·funext x;split
   ·rename_i h;rw[h]
   ·rfl
  ·funext x;split
   ·rename_i h;rw[h]
   ·rfl
theorem Ba{α:Type}(A M Z X:List α):(A++M++Z).take A.length++X++(A++M++Z).drop (A.length+M.length)=A++X++Z:=by
 rw[hM A M Z,List.take_left,<-hM,<-hA,List.drop_left]
theorem VA{c:Call}{s x:dg}(Y:o.op= .call c)(hc:c.callee= .builtin .append)(W:c.args.toList=[s,x])(bV:c.argTypes.size=2){H0:Heap}{K:aS->Prop}
 (h:nB P (c.argTypes.getD 0 0) (c.argTypes.getD 1 0) H0 (ρ s) (ρ x) K):
 ∃e,K e/\bg P o ρ H0.length e/\(∀p∈e.ak,H0[p.1]?=some p.2)/\(∀p∈e.aJ,p.1<H0.length/\p.2≠.hole):=by
 obtain⟨T,X,S⟩:∃T X,c.argTypes=#[T,X]:=by
  obtain⟨l,I⟩:∃l,l=c.argTypes.toList:=⟨_,rfl⟩
  have af:l.length=2:=by rw[I];simpa using bV
  match l,af with
  |[a,b],_=>exact⟨a,b,by apply cb;simp[<-I]⟩
 have B:s∈o.op.operands/\x∈o.op.operands:=by
  have bF:c.args=#[s,x]:=by apply cb;simpa using W
  rw[Y];simp[g0,gb,hc,bF]
 have e1:c.argTypes.getD 0 0=T:=by rw[S];rfl
 have e2:c.argTypes.getD 1 0=X:=by rw[S];rfl
 rw[e1,e2]at h;unfold nB at h
 split at h
 case h_2=>exact h.elim
 rename_i sz g F hx;obtain⟨ag,a8,am,h⟩:=h;obtain⟨e,i,F⟩:=j0 F;obtain⟨z,a8⟩:=j4.1 a8;obtain⟨b3,b0,be,z2,z3,z4⟩:=oK a8;rw[F.pZ]at be z4;rw[F.info]at be;cases be;have aW:b0.cells.size=sz:=by
  obtain⟨_,i2,k1,k2⟩:=xu (v:=.p z) (w:=default) (ad:=fun _=>False) (β:=⟨id,id⟩) (H:=[]) z4 (by simp only[bf];exact z3 _ _);rw[F.info]at k1;cases k1;have:=F.size;simp at k2;omega
 have ba:∀{ak:List (Nat×Obj)},(∀p∈dv H0 (ρ x),p∈ak)->(∀p∈ak,H0[p.1]?=some p.2)->g=[]->(∀(H:Heap)(w:dq)(ad ah:Nat->Prop)(β:Bd)(v:dl),bP P w ad β H ah->(∀p∈ak,H[p.1]?=some p.2)->au P w ad β H (ρ s) v->∃p a b,v= .slice p a b/\a<=b)->
  bg P o ρ H0.length {v:=ρ s,ak}:=by
  intro ak bU aw bW bS;subst bW;refine bg.same fun H w ad ah β av f j ak=>?_;obtain⟨p,a,b,u,bE⟩:=bS H w ad ah β _ f ak (j s B.1).1;obtain⟨E,C,af,bB,bC⟩:=vw (pN hx (fun p u=>ak p (bU p u))) f (j x B.2).1 (j x B.2).2 am;have bk:=bC w rfl 0 (i4 _);simp only[List.take_zero,List.flatten_nil]at bk;have R:=Ui F ag o.type (p:=p) (sLen:=a) (sCap:=b) _ bB bk bE;rw[<-S,<-u]at R;exact⟨_,xG Y hc W R,by rw[u];exact u▸(j s B.1).1,(j s B.1).2⟩
 have a9:∀l:List AV,l.isEmpty=true->l=[]:=fun l h=>by simpa using h
 split at h
 ·
  rename_i hs
  split at h
  ·rename_i G;refine⟨_,h,?_,nj,by simp⟩;exact ba (fun p u=>u) nj (a9 _ G) (fun H w ad ah β v _ _ A=>by rw[hs]at A;simp only[au,aA]at A;exact⟨_,_,_,A,i4 _⟩)
  ·rename_i G;obtain⟨bq,h⟩:=h;refine⟨_,h,?_,nj,by simp⟩;intro H w ad ah β av f j ak aJ;have aj:H[H0.length]?=some .hole:=by simpa using aJ 0 (by simp)
   have Q:=(j s B.1).1;rw[hs]at Q;simp only[au,aA]at Q;have bs:0<g.length:=hZ.2 (by simpa using G);obtain⟨cap,cells,E,D,ab,an,ac,ao,ap,aq⟩:=xt Y hc W S F ag z2 aW f Q (olds:=[]) (ocss:=[]) rfl (ib.2 rfl) (by simp[aR]) (by simp[eq])
    (pN hx ak) (j x B.2).1 (j x B.2).2 am (by omega) (by omega)
   obtain⟨q1,Z,aa⟩:=BP (base:=H0.length) (k:=gk P T) (e:=e) (_o':=.hole) f aj tO.1 (fun q=>G (by simpa using q.2)) an ac ao ap aq (fun h=>(tO.2 h).elim) (DY F.pZ);simp only[h5,i9]at ab q1 Z aa;exact⟨_,_,_,_,ad,ab,.inl rfl,q1,Z,aa⟩
 ·
  rename_i full d hs;obtain⟨bG,h⟩:=h
  have Q:∀{H:Heap}{w:dq}{ad:Nat->Prop}{β:Bd}{v:dl},au P w ad β H (ρ s) v->∃p c N,v= .slice p d.length c/\d.length<=c/\(full=true->c=d.length)/\Row P w ad β H sz (d.map .p) N/\
   (∀w':dq,w'.heap=w.heap->(eq sz d.length v).run P w'=.ok N.flatten.toArray w'):=by
   intro H w ad β v A;rw[hs]at A;simp only[au,aA]at A;obtain⟨al,off,cap,ai,E,v1,v2,v3,v4,v5,sp,bT,rfl⟩:=A;rcases bT with rfl|rfl
   case inr=>
    obtain rfl:d=[]:=hR.1 (by omega);exact⟨_,_,[],rfl,by simp,by simp,ib.2 rfl,fun w' _=>A2⟩
   have aM:Row P w ad β H ai (d.map .p) E:=lS.2 v1;have bw:Row P w ad β H sz (d.map .p) E:=by
    by_cases br:d.map AV.p=[]
    ·rw[br]at aM⊢;rw[ib]at aM⊢;exact aM
    ·rw[<-sQ aM bG br];exact aM
   refine⟨_,_,E,rfl,v5,v4,bw,fun w' a7=>uL (by have:=(fK bw).2;simpa using this) (v3.same (by rw[a7]))⟩
  split at h
  ·rename_i G;refine⟨_,h,?_,nj,by simp⟩;exact ba (fun p u=>u) nj (a9 _ G) (fun H w ad ah β v _ _ A=>by obtain⟨p,c,_,C,af,_⟩:=Q A;exact⟨p,_,c,C,af⟩)
  ·rename_i G;obtain⟨hf,bq,h⟩:=h;refine⟨_,h,?_,nj,by simp⟩;intro H w ad ah β av f j ak aJ;have aj:H[H0.length]?=some .hole:=by simpa using aJ 0 (by simp)
   have bs:0<g.length:=hZ.2 (by simpa using G);obtain⟨p,cp,N,s1,s2,bY,bZ,bA⟩:=Q (j s B.1).1;rw[s1]at bA;obtain⟨cap,cells,E,D,ab,an,ac,ao,ap,aq⟩:=xt Y hc W S F ag z2 aW f s1 (olds:=d.map .p) (by simp) bZ (iZ _ _) (bA w.drew rfl)
    (pN hx ak) (j x B.2).1 (j x B.2).2 am (by have:=bY hf;omega) (by omega)
   obtain⟨q1,Z,aa⟩:=BP (base:=H0.length) (k:=gk P T) (e:=e) (_o':=.hole) f aj tO.1 (fun q=>G (by have:=q.2;simp at this;simp[this.2])) an ac ao ap aq (fun h=>(tO.2 h).elim) (DY F.pZ);simp only[hA,ip]at Z aa;exact⟨_,_,_,_,ad,ab,.inl rfl,q1,Z,aa⟩
 ·
  rename_i b ar ai off len hs
  split at h
  case h_2=>exact h.elim
  rename_i k b4 b1 d a5;obtain⟨rfl,rfl,rfl,hlen,h⟩:=h;have aw:∀p∈(b,Obj.arr k ar ai d)::dv H0 (ρ x),H0[p.1]?=some p.2:=by
   intro p u;rcases hE.1 u with rfl|u
   ·exact a5
   ·exact nj p u
  have Q:∀{H:Heap}{w:dq}{ad ah:Nat->Prop}{β:Bd}{v:dl},bP P w ad β H ah->H[b]?=some (.arr k ar ai d)->au P w ad β H (ρ s) v->
   (cX k d/\v=.slice none 0 0/\len=0)\/(¬cX k d/\v=.slice (some ⟨β.al b,off*ai,none⟩) len (β.cap b-off)/\
   ∃cs T E D,w.heap[β.al b]?=some (.cells cs T (0,0))/\Row P w ad β H ai d E/\cs.toList=E.flatten++D/\
   cs.size=β.cap b*ai/\d.length<=β.cap b/\(k=.exact->β.cap b=d.length)/\cw ad β ah (k== .frozen) b/\(k=.bytes->T=Gl.u8)):=by
   intro H w ad ah β v f t A;rw[hs]at A;simp only[au,bK,bO]at A;obtain⟨_,v2,v3⟩:=A.2 k d t
   by_cases q:cX k d
   ·exact .inl ⟨q,v2 q,by have:=q.2;subst this;simp at hlen;omega⟩
   ·rcases f.cB b _ t with hold|⟨cs,O,E,D,k1,k2,k3,k4,k5,k6,k7,k8⟩
    ·exact(q hold).elim
    ·exact .inr ⟨q,v3 q,cs,O,E,D,k1,k2,k3,k4,k5,k6,k7,k8.2⟩
  have holds:∀{H:Heap}{w:dq}{ad:Nat->Prop}{β:Bd}{cs:Array dl}{O:dk}{E:List (List dl)}{D:List dl},w.heap[β.al b]?=some (.cells cs O (0,0))->Row P w ad β H ai d E->cs.toList=E.flatten++D->
   ∃N,Row P w ad β H ai ((d.drop off).take len) N/\∀(w':dq)(n c:Nat),w'.heap=w.heap->(eq ai len (.slice (some ⟨β.al b,off*ai,none⟩) n c)).run P w'=.ok N.flatten.toArray w':=by
   intro H w ad β cs O E D k1 k2 k3;obtain⟨a,m,z,g1,g2,g3,g4,g5⟩:=jC k2 off len hlen;refine⟨m,g2,fun w' n c a7=>uL (by have:=(fK g2).2;rw[this];congr 1;simp;omega) ?_⟩;have:=lM k1 (pre:=a.flatten) (xs:=m.flatten) (post:=z.flatten++D) (by rw[k3,g1];simp);rw[g3]at this;exact this.same (by rw[a7])
  split at h
  ·rename_i G;refine⟨_,h,?_,aw,by simp⟩;refine ba (fun p u=>hF _ u) aw (a9 _ G) (fun H w ad ah β v f ak A=>?_);rcases Q f (ak (b,_) (by simp)) A with⟨_,C,_⟩|⟨q,C,cs,O,E,D,af⟩
   ·exact⟨_,_,_,C,i4 _⟩
   ·exact⟨_,_,_,C,by omega⟩
  ·rename_i G;have bs:0<g.length:=hZ.2 (by simpa using G);obtain⟨bq,h⟩:=h
   split at h
   ·exact h.elim
   ·
    split at h
    ·rename_i ay;refine⟨_,h,?_,aw,by simpa using(hw.1 a5).1⟩;intro H w ad ah β av f j ak _;have t:H[b]?=some (.arr .exact ar ai d):=ak (b,_) (by simp);rcases Q f t (j s B.1).1 with⟨q,_⟩|⟨q,C,cs,O,E,D,k1,k2,k3,k4,k5,k6,k7,k8⟩
     ·cases q.1
     obtain⟨M,V,bb,bc,bd⟩:=vw (pN hx (fun p u=>ak p (hF _ u))) f (j x B.2).1 (j x B.2).2 am;have aO:=bd w rfl g.length (i4 _);rw[hS (by have:=(fK V).1;omega)]at aO;have bo:=k6 rfl;obtain⟨a,m,ae,g1,g2,g3,g4,g5⟩:=jC k2 (off+len) g.length ay;have az:=(fK V).2;have ax:m.flatten.length=g.length*ai:=by have:=(fK g2).2;rw[this];congr 1;simp;omega
     have aP:cs.toList=a.flatten++m.flatten++(ae.flatten++D):=by rw[k3,g1];simp
     have bn:a.flatten.length=off*ai+len*ai:=by rw[g3,jp]
     have bx:cs.size=a.flatten.length+m.flatten.length+(ae.flatten++D).length:=by
      have:=congrArg h4 aP;simp only[hA,ce]at this;rw[this,hA]
     have R:=Iu F ag o.type (sLen:=len) (sCap:=β.cap b-off) _ bc k1 aO (vD V) (by omega) (by rw[az,bx,bn,ax];exact i8 _ _);rw[<-S,<-C]at R;have aQ:cs.toList.take (off*ai+len*ai)++M.flatten++cs.toList.drop (off*ai+len*ai+M.flatten.length)=a.flatten++M.flatten++(ae.flatten++D):=by
      rw[aP,<-bn,az,<-ax];exact Ba _ _ _ _
     rw[aQ]at R;have aB:b9 β H β (H.set b (.arr .exact ar ai (d.take (off+len)++g++d.drop (off+len+g.length)))):=oW t (.inr (.inl ⟨_,_,_,_,_,rfl,rfl,by simp;omega⟩));have aI:¬ad (β.al b)/\¬ah (β.al b):=by
      unfold cw at k7;rw[if_neg (by simp)]at k7;exact k7
     have a6:∀J,ad J->(w.setRow (β.al b) (a.flatten++M.flatten++(ae.flatten++D)).toArray).heap[J]?=w.heap[J]?:=fun J a2=>eb w _ J _ (fun a1=>aI.1 (a1▸a2));have hrefs:aR (aG H) (d.take (off+len)++g++d.drop (off+len+g.length)):=by
      have bt:=cG.1 (f.refs b _ t);refine jB (jB ?_ bb) ?_
      ·rw[cG];exact fun v A=>bt v (hH A)
      ·rw[cG];exact fun v A=>bt v (hP A)
     have aT:=lT t (o:=.arr .exact ar ai (d.take (off+len)++g++d.drop (off+len+g.length))) (fun _ h=>h);have a3:(d.take (off+len)++g++d.drop (off+len+g.length)).length=d.length:=by simp;omega
     have aL:=qm f t q (o':=.arr .exact ar ai (d.take (off+len)++g++d.drop (off+len+g.length))) (fun U=>by cases U.1) (fun _ h=>h) k1 (new:=(a.flatten++M.flatten++(ae.flatten++D)).toArray) aI aB
      (.inr ⟨_,O,a++M++ae,D,ec w _ _ _ O _ k1,by
       refine Row.mono (fun _ x=>x) a6 aB hrefs (ld.2 ⟨_,_,rfl,ld.2 ⟨_,_,rfl,g4,V⟩,g5⟩),by simp,by
       rw[<-k4,bx];simp only[hL,hA,az,ax],by rw[a3];exact k5,fun _=>by rw[a3];exact bo,k7,(fun aU=>by cases aU),k8⟩) (aR.mono aT _ hrefs)
     refine⟨_,_,_,β,ad,xG Y hc W R,.inl rfl,aL,?_,?_⟩
     ·simp only[au,bK,bO,bm,newAt,hD];refine⟨by simp[hp],fun J bi I=>?_⟩;unfold eD at I;rw[hz (hw.1 t).1]at I;cases I;exact⟨by rw[a3];omega,(fun U=>by cases U.1),fun _=>trivial⟩
     ·simp only[aC];exact⟨_,hz (hw.1 t).1,i4 _⟩
    ·rename_i ay;refine⟨_,h,?_,aw,by simp⟩;intro H w ad ah β av f j ak aJ;have aj:H[H0.length]?=some .hole:=by simpa using aJ 0 (by simp)
     have t:H[b]?=some (.arr .exact ar ai d):=ak (b,_) (by simp);rcases Q f t (j s B.1).1 with⟨q,_⟩|⟨q,C,cs,O,E,D,k1,k2,k3,k4,k5,k6,k7,k8⟩
     ·cases q.1
     have bo:=k6 rfl;obtain⟨N,aN,aX⟩:=holds k1 k2 k3;have bp:((d.drop off).take len).length=len:=by simp;omega
     obtain⟨cap,cells,bh,bz,ab,an,ac,ao,ap,aq⟩:=xt Y hc W S F ag z2 aW f C (olds:=(d.drop off).take len) bp aN
      (by rw[cG];exact fun v A=>cG.1 (f.refs b _ t) v (hP (hH A))) (aX w.drew _ _ rfl)
      (pN hx (fun p u=>ak p (hF _ u))) (j x B.2).1 (j x B.2).2 am (by omega) (by omega)
     obtain⟨q1,Z,aa⟩:=BP (base:=H0.length) (k:=gk P T) (e:=e) (_o':=.hole) f aj tO.1 (fun q=>G (by have:=q.2;simp at this;simp[this.2])) an ac ao ap aq (fun h=>(tO.2 h).elim) (DY F.pZ);rw[hA,bp]at Z aa;exact⟨_,_,_,_,ad,ab,.inl rfl,q1,Z,aa⟩
   ·
    rename_i bI bJ;obtain⟨rfl,bL,h⟩:=h;have aK:k≠.frozen:=fun e=>bI e;have aU:k≠.exact:=fun e=>bJ e;have b2:(k==AK.frozen)=false:=by simpa using aK
    refine⟨_,h,?_,aw,by simpa using(hw.1 a5).1⟩;intro H w ad ah β av f j ak _;have t:H[b]?=some (.arr k ar ai d):=ak (b,_) (by simp);have aE:b<H.length:=(hw.1 t).1;have aV:(d.take len).length=len:=by simp;omega
    have bv:aR (aG H) (d.take len):=by rw[cG];exact fun v A=>cG.1 (f.refs b _ t) v (hH A)
    have a4:¬cX k (d.take len++g):=fun U=>G (by have:=U.2;simp at this;simp[this.2]);have aT:=lT t (o:=.arr k (ar+1) ai (d.take len++g)) (fun v h=>by simp only[Obj.has]at h⊢;omega)
    have bj:∀(p:Option Addr)(aZ:Nat)(N:List (List dl)),av s= .slice p len aZ->Row P w ad β H ai (d.take len) N->(eq ai len (.slice p len aZ)).run P w.drew= .ok N.flatten.toArray w.drew->aZ<len+g.length->
     ∃n a0 w' aH aD,(dp av o).run P w=.ok n w'/\(n=.value a0\/n=.skip/\a0=undef)/\
      bR P ah ad w β H aD w' aH (H.set b (.arr k (ar+1) ai (d.take len++g)))/\au P w' aD aH (H.set b (.arr k (ar+1) ai (d.take len++g))) (.sl b (ar+1) ai 0 (len+g.length)) a0/\
      aC (aG (H.set b (.arr k (ar+1) ai (d.take len++g)))) (.sl b (ar+1) ai 0 (len+g.length)):=by
     intro p aZ N C bN bM bH;obtain⟨cap,cells,bh,bz,ab,an,ac,ao,ap,aq⟩:=xt Y hc W S F ag z2 aW f C (olds:=d.take len) aV bN bv bM
      (pN hx (fun p u=>ak p (hF _ u))) (j x B.2).1 (j x B.2).2 am bH (by omega)
     have aB:=KK (β:=β) (k':=k) (es':=d.take len++g) (al:=w.heap.size) (cap:=cap) t;have aL:bR P ah ad w β H ad {w.drew with heap:=w.heap.push (.cells cells e)} (β.at b w.heap.size cap) (H.set b (.arr k (ar+1) ai (d.take len++g))):=by
      refine bR.set f aE (fun y bX=>by simp[Bd.at,bX]) (fun _ y=>y) (fun _ y=>.inl y) (fun k hk=>by have:=f.bQ k hk;simp;omega) (by simp)
       (fun k _ hk=>by simp[cx,j2 hk]) (fun _=>.inl (by simp[Bd.at])) aB
       (.inr ⟨cells,e,bh,bz,by simp[Bd.at],Row.mono (fun _ y=>y) (fun k hk=>by have:=f.bQ k hk;simp[cx,j2 this]) aB ac an,ao,by simp[Bd.at,ap],by simpa[Bd.at]using aq,(fun aF=>(aU aF).elim),by
        unfold cw;rw[if_neg (by simpa using aK)];simp only[Bd.at,if_true];exact⟨fun h=>i5 _ (f.bQ _ h),fun h=>i5 _ (f.dX _ h)⟩,(fun aF=>(aK aF).elim),fun aj=>F.pZ▸bL aj⟩)
       (aR.mono aT _ ac) (fun aN v C af=>by rw[t]at C;cases C;simp only[Obj.has]at af⊢;omega) (fun L bl=>by rw[t]at bl;cases bl)
     refine⟨_,_,_,_,ad,ab,.inl rfl,aL,?_,?_⟩
     ·simp only[au,bK,bO];refine⟨by simp[hp],fun J bi I=>?_⟩;unfold eD at I;rw[hz aE]at I;cases I;exact⟨by rw[hA,aV];omega,fun U=>(a4 U).elim,fun _=>by simp[Bd.at]⟩
     ·simp only[aC];exact⟨_,hz aE,i4 _⟩
    simp only[bm,newAt,hD];rcases Q f t (j s B.1).1 with⟨q,C,rfl⟩|⟨q,C,cs,O,E,D,k1,k2,k3,k4,k5,k6,k7,k8⟩
    ·exact bj none 0 [] C (by simp[ib]) (by simp[eq]) (by omega)
    ·simp only[js,Nat.sub_zero]at C
     by_cases ay:len+g.length<=β.cap b
     ·
      obtain⟨M,V,bb,bc,bd⟩:=vw (pN hx (fun p u=>ak p (hF _ u))) f (j x B.2).1 (j x B.2).2 am;have aO:=bd w rfl g.length (i4 _);rw[hS (by have:=(fK V).1;omega)]at aO;obtain⟨a,m,ae,g1,g2,g3,g4,g5⟩:=jC k2 0 len hlen;have bD:a=[]:=by have:=(fK g4).1;simpa using this
      subst bD;have az:=(fK V).2;have ax:m.flatten.length=len*ai:=by have:=(fK g2).2;rw[this];congr 1
      have aP:cs.toList=m.flatten++(ae.flatten++D):=by rw[k3,g1];simp
      have bQ:=Nat.mul_le_mul_right ai ay;rw[jp]at bQ;have R:=Iu F ag o.type (off:=0) (sLen:=len) (sCap:=β.cap b) _ bc k1 aO (vD V) ay (by rw[az,k4];omega);rw[<-S,<-C]at R;obtain⟨aY,bu⟩:∃r,r=cs.toList.drop (len*ai+M.flatten.length):=⟨_,rfl⟩
      have aQ:cs.toList.take (0+len*ai)++M.flatten++cs.toList.drop (0+len*ai+M.flatten.length)=(m++M).flatten++aY:=by
       rw[i9,<-bu];congr 1;rw[aP,<-ax];simp
      rw[aQ]at R;have aI:¬ad (β.al b)/\¬ah (β.al b):=by
       unfold cw at k7;rw[if_neg (by simpa using aK)]at k7;exact k7
      have aB:b9 β H β (H.set b (.arr k (ar+1) ai (d.take len++g))):=by
       have:=KK (β:=β) (k':=k) (es':=d.take len++g) (al:=β.al b) (cap:=β.cap b) t
       rwa [Bd.VV]at this
      have a6:∀J,ad J->(w.setRow (β.al b) ((m++M).flatten++aY).toArray).heap[J]?=w.heap[J]?:=fun J a2=>eb w _ J _ (fun a1=>aI.1 (a1▸a2));have hrefs:aR (aG H) (d.take len++g):=jB bv bb;have aL:=qm f t q (o':=.arr k (ar+1) ai (d.take len++g)) a4 (fun v h=>by simp only[Obj.has]at h⊢;omega) k1 (new:=((m++M).flatten++aY).toArray) aI aB
       (.inr ⟨_,O,m++M,aY,ec w _ _ _ O _ k1,by
        refine Row.mono (fun _ x=>x) a6 aB hrefs (ld.2 ⟨_,_,rfl,?_,V⟩);simpa using g2,by simp,by
        rw[<-k4];simp only[hL,hA,h0,az,ax,bu,List.length_drop,ce,k4];omega,by rw[hA,aV];exact ay,(fun aF=>(aU aF).elim),k7,(fun h=>(aK h).elim),k8⟩) (aR.mono aT _ hrefs)
      refine⟨_,_,_,β,ad,xG Y hc W R,.inl rfl,aL,?_,?_⟩
      ·simp only[au,bK,bO];refine⟨by simp[hp],fun J bi I=>?_⟩;unfold eD at I;rw[hz aE]at I;cases I;exact⟨by rw[hA,aV];omega,fun U=>(a4 U).elim,fun _=>by simp⟩
      ·simp only[aC];exact⟨_,hz aE,i4 _⟩
     ·obtain⟨N,aN,aX⟩:=holds k1 k2 k3;simp only[h6,js]at aN aX;exact bj _ _ N C aN (aX w.drew _ _ rfl) (by omega)
 ·exact h.elim
end
section
variable{P:dz}{w:dq}{ad ah:Nat->Prop}{β:Bd}{H:Heap}
variable{o:Oper}{ρ:dg->AV}{base:Nat}
def iO(bs:ByteArray):List Nat:=bs.data.toList.map (·.toNat)
theorem A6:∀{a b:List UInt8},a.map (·.toNat)=b.map (·.toNat)->a=b
 |[],[],_=>rfl
 |[],_::_,h=>by simp at h
 |_::_,[],h=>by simp at h
 |x::a,y::b,h=>by
  simp at h;rw[j7.1 h.1,A6 h.2]
theorem bytes_beq(a b:ByteArray):(a.toList==b.toList)=(iO a==iO b):=by
 rw[fV,fV];unfold iO
 by_cases h:a.data.toList=b.data.toList
 ·simp[h]
 ·have d:¬(a.data.toList.map (·.toNat)=b.data.toList.map (·.toNat)):=fun c=>h (A6 c)
  rw[beq_eq_false_iff_ne.2 h,beq_eq_false_iff_ne.2 d]
theorem HW:∀a b:List UInt8,g9 a b=ja (a.map (·.toNat)) (b.map (·.toNat))
 |[],[]=>rfl
 |_::_,[]=>rfl
 |[],_::_=>rfl
 |x::a,y::b=>by
  simp only[g9,hC,ja,HW a b];congr 1
  ·congr 1
   by_cases h:x=y
   ·simp[h]
   ·have:¬x.toNat=y.toNat:=fun c=>h (j7.1 c);rw[beq_eq_false_iff_ne.2 h,beq_eq_false_iff_ne.2 this]
theorem aDt{c:BinOp}{T j:dk}{x y:dg}{a b:List Nat}{K:PV->Prop}(g:o.op= .binOp c T x y j)(hx:ρ x= .p (.str a))(u:ρ y= .p (.str b))
 (h:pH c a b K)(ak:List (Nat×Obj)):∃v,K v/\bg P o ρ base {v:=.p v,ak}:=by
 have key:∀v,K v->(∀(w:dq)(ad:Nat->Prop)(s t:ByteArray),a=iO s->b=iO t->∃r,(hd c s t).run P w=.ok r w/\aA P w ad v r)->∃v,K v/\bg P o ρ base {v:=.p v,ak}:=by
  intro v q n;refine⟨v,q,bg.same fun H w ad ah β C B i _=>?_⟩;have e:=(i x (by simp[g,g0])).1;have f:=(i y (by simp[g,g0])).1;rw[hx]at e;rw[u]at f;simp only[au,MO]at e f;obtain⟨s,e1,e2⟩:=e;obtain⟨t,e3,e4⟩:=f;obtain⟨r,z,A⟩:=n w ad s t e2 e4;refine⟨r,?_,by simpa only[au]using A,by simp[aC]⟩;simp only[dp,g,e1,e3];refine er ?_;have l:(eqGuard c T x y (.string s) (.string t)).run P w=.ok () w:=by
   unfold eqGuard
   split<;>simp
  have k:(binOp c T (.string s) (.string t)).run P w=.ok r w:=by
   cases c<;>first|(simp[pH]at h;done)|exact z
  simp[l,k]
 have m:∀s t:ByteArray,a=iO s->b=iO t->g9 s.toList t.toList=ja a b/\(s.toList==t.toList)=(a==b):=by
  intro s t hs d;rw[bytes_beq,<-hs,<-d,HW,fV,fV];exact⟨by rw[hs,d];rfl,rfl⟩
 cases c<;>simp only[pH]at h
 case add=>
  refine key _ h.2 fun w ad s t hs d=>⟨.string (s++t),run_string_add_sum w s t ?_,?_⟩
  ·have e:a.length=s.size:=by rw[hs];simp[iO]
   have f:b.length=t.size:=by rw[d];simp[iO]
   omega
  ·rw[MO];exact⟨_,rfl,by rw[hs,d];simp[iO,ByteArray.data_append]⟩
 case eql|neq|lss|leq|gtr|geq=>
  refine key _ h fun w ad s t hs d=>?_;obtain⟨e1,e2⟩:=m s t hs d;exact⟨_,by simp only[hd,e1,e2];rfl,by simp[aA]⟩
theorem S7{T:dk}(h:qO P T=true):P.underlying T=some .bool:=by
 unfold qO at h
 split at h
 ·assumption
 ·simp at h
theorem HM{T:dk}{a b:dl}{r:Bool}{w:dq}(h:(g8 T a b).run P w= .ok r w)(d:(∃x,a= .bool x)\/(∃x,a= .agg x)\/(∃p n c,a= .slice p n c)\/(∃m,a= .map m)\/a= .nilFunc\/(∃f x y,a= .func f x y)\/(∃p,a= .pointer p)\/a= .nilIface):
 (binOp .eql T a b).run P w=.ok (.bool r) w/\(binOp .neq T a b).run P w=.ok (.bool !r) w:=by
 rcases d with⟨x,rfl⟩|⟨x,rfl⟩|⟨p,n,c,rfl⟩|⟨m,rfl⟩|rfl|⟨f,x,y,rfl⟩|⟨p,rfl⟩|rfl
 all_goals (constructor<;>(unfold binOp;simp[h]))
def jk.isAgg:jk->Bool
 | .agg _=>true
 |_=>false
theorem VZ{T:dk}{t:jk}(hk:kindOf P T=t)(a:t≠.bad)(w:dq):(isAgg T).run P w=.ok t.isAgg w:=by
 unfold kindOf at hk;cases hu:P.underlying T with
 |none=>rw[hu]at hk;simp at hk;exact(a hk.symm).elim
 |some d=>
  rw[hu]at hk;simp only[isAgg,hl,db hu,hh];cases d<;>simp only at hk<;>(split at hk<;>first|(subst hk;rfl)|exact(a hk.symm).elim)
theorem qQ{F:dk}{v:PV}{pre c post:List dl}{cs:Array dl}(hk:kindOf P F=aL v)(b:aP P w ad v c)(e:cs.toList=pre++c++post):
 ∃x,(part F cs pre.length).run P w=.ok x w/\aA P w ad v x:=by
 obtain⟨j,i,f,g⟩:=xu (v:=.p v) (β:=⟨id,id⟩) (H:=[]) (w:=w) (ad:=ad) hk (by simpa only[bf]using b);have d:=(ny b).2;have a:=VZ hk d w;cases hs:aL v with
 |bad=>exact(d hs).elim
 |leaf=>
  rw[hs]at a;obtain⟨x,rfl,hx⟩:=(sR hs c).1 b;refine⟨x,?_,hx⟩;have:cs[pre.length]?=some x:=by rw[<-cc,e];simp
  simp[part,a,this,jk.isAgg]
 |agg u=>
  rw[hs]at a;refine⟨.agg c.toArray,?_,(vF hs c).1 b⟩;have h:(sizeOf F).run P w=.ok c.length w:=by simp[sizeOf,typeInfo,f,g]
  have:cs.extract pre.length (pre.length+c.length)=c.toArray:=by
   apply cb;rw[Array.toList_extract,e];simp[List.extract_eq_take_drop]
  simp[part,a,h,this,jk.isAgg]
theorem vE{n:Nat}{b:List Nat}{v:PV}{vs:List PV}{a:List (List dl)}(h:aY P w ad (n::b) (v::vs) a):∃c cs,a=c::cs/\aP P w ad v c/\c.length=n/\aY P w ad b vs cs:=by
 simpa only[aY]using h
theorem HU{eqF:dk->PV->PV->Option Bool}{d:Nat}(B:∀F a b r,eqF F a b=some r->kindOf P F=aL a->kindOf P F=aL b->∀x y,aA P w ad a x->aA P w ad b y->(g7 d F x y).run P w= .ok r w){X Y:Array dl}:
 ∀(fs:List ee)(l:List Nat)(j k:List PV)(r:Bool)(h m:List dl)(o p:List (List dl)),iV P eqF (fs.map (·.type)) j k=some r->fs.all (fun f=>f.name != "_")=true->
 (∀(i:Nat)(f:ee),fs[i]?=some f->f.offset=h.length+(l.take i).sum)->aY P w ad l j o->aY P w ad l k p->h.length=m.length->
 X.toList=h++o.flatten->Y.toList=m++p.flatten->(ha d X Y fs).run P w=.ok r w
 |[],l,j,k,r,h,m,o,p,e,_,_,_,_,_,_,_=>by
  cases j<;>cases k<;>simp[iV]at e;subst e;simp[ha]
 |f::fs,l,j,k,r,h,m,o,p,e,q,v,hx,L,A,t,hY=>by
  cases j with
  |nil=>simp[iV]at e
  |cons a j=>
   cases k with
   |nil=>simp[iV]at e
   |cons b k=>
    cases l with
    |nil=>simp[aY]at hx
    |cons n l=>
     simp only[hC,iV]at e
     split at e
     case isFalse=>simp at e
     rename_i hk
     split at e
     case h_2=>simp at e
     rename_i N O E G;simp at e;subst e;obtain⟨c,cs,rfl,hc,u,K⟩:=vE hx;obtain⟨c',s,rfl,H,I,M⟩:=vE L;simp only[List.all_cons,da,bne_iff_ne]at q;have z:f.offset=h.length:=by simpa using v 0 f (by simp)
     obtain⟨x,C,R⟩:=qQ hk.1 hc (pre:=h) (post:=cs.flatten) (cs:=X) (by rw[t];simp);obtain⟨y,D,S⟩:=qQ hk.2 H (pre:=m) (post:=s.flatten) (cs:=Y) (by rw[hY];simp);have e1:=B _ _ _ _ E hk.1 hk.2 x y R S;rw[<-z]at C;rw[<-A,<-z]at D;have Q:=HU B fs l j k O (h++c) (m++c') cs s G q.2 (by
      intro i g J;have:=v (i+1) g (by simpa using J);rw[this,ih,ix,hA,u];omega) K M (by simp[A,u,I]) (by rw[t];simp) (by rw[hY];simp)
     simp only[ha,q.1,ne_eq,not_false_eq_true,if_true,hl,C,D,e1,hh];cases N with
     |false=>simp
     |true=>simpa using Q
theorem Gu{eqF:dk->PV->PV->Option Bool}{d:Nat}{e:dk}(u:∀a b r,eqF e a b=some r->∀x y,aA P w ad a x->aA P w ad b y->(g7 d e x y).run P w= .ok r w){X Y:Array dl}:
 ∀(n k:Nat)(g h:List PV)(r:Bool)(i j:List dl)(l m:List (List dl)),iV P eqF (hB n e) g h=some r->
 aY P w ad (hB n (P.cellsOf e)) g l->aY P w ad (hB n (P.cellsOf e)) h m->i.length=k*P.cellsOf e->j.length=k*P.cellsOf e->
 X.toList=i++l.flatten->Y.toList=j++m.flatten->(hb d e (P.cellsOf e) X Y (List.range' k n)).run P w=.ok r w
 |0,k,g,h,r,i,j,l,m,f,_,_,_,_,_,_=>by
  cases g<;>cases h<;>simp[iV]at f;subst f;simp[hb]
 |n+1,k,g,h,r,i,j,l,m,f,hx,t,q,s,p,hY=>by
  cases g with
  |nil=>simp[hW,iV]at f
  |cons a g=>
   cases h with
   |nil=>simp[hW,iV]at f
   |cons b h=>
    rw[hW]at f hx t;simp only[iV]at f
    split at f
    case isFalse=>simp at f
    rename_i hk
    split at f
    case h_2=>simp at f
    rename_i H I A B;simp at f;subst f;obtain⟨c,cs,rfl,hc,D,F⟩:=vE hx;obtain⟨c',o,rfl,C,E,G⟩:=vE t;obtain⟨x,v,K⟩:=qQ hk.1 hc (pre:=i) (post:=cs.flatten) (cs:=X) (by rw[p];simp);obtain⟨y,z,L⟩:=qQ hk.2 C (pre:=j) (post:=o.flatten) (cs:=Y) (by rw[hY];simp);have e1:=u _ _ _ A x y K L;rw[q]at v;rw[s]at z;have J:=Gu u n (k+1) g h I (i++c) (j++c') cs o B F G (by rw[hA,q,D,j1]) (by rw[hA,s,E,j1]) (by rw[p];simp) (by rw[hY];simp);rw[List.range'_succ];simp only[hb,hl,v,z,e1,hh];cases H with
    |false=>simp
    |true=>simpa using J
theorem yu:∀(n:Nat)(T:dk)(v v':PV)(r:Bool),ie P n T v v'=some r->∀x y,aA P w ad v x->aA P w ad v' y->∀d,n<=d->(g7 d T x y).run P w=.ok r w
 |0,_,_,_,_,h,_,_,_,_,_,_=>by simp[ie]at h
 |n+1,T,v,v',r,h,x,y,hx,g,d,L=>by
  obtain⟨d,rfl⟩:∃e,d=e+1:=⟨d-1,by omega⟩
  unfold ie at h
  split at h
  ·rename_i a b c;simp at h;subst h;simp only[aA]at hx g;subst hx;subst g;simp[g7,db c]
  ·rename_i k0 k a M b c
   split at h
   case isFalse=>simp at h
   rename_i hk;subst hk;simp at h;subst h;simp only[aA]at hx g;subst hx;subst g;exact run_equalIn_int w d T k k0 a b c
  ·rename_i a b c;simp at h;subst h;simp only[aA]at hx g;obtain⟨s,rfl,hs⟩:=hx;obtain⟨t,rfl,H⟩:=g;rw[run_equalIn_string w d T s t c,bytes_beq,hs,H];rfl
  ·rename_i fs u A u' B c
   split at h
   case isFalse=>simp at h
   rename_i hc;obtain⟨hk,rfl,G,E⟩:=hc;simp only[aA]at hx g;obtain⟨l,j,k1,k2,rfl⟩:=hx;obtain⟨D,o,k3,k4,rfl⟩:=g;rw[k1]at k3;cases k3;obtain⟨K,D,s1,s2,q,z,N,I⟩:=uP (P:=P) (T:=T) (u:=u') (n:=fs.size) (by unfold fQ;rw[hk,c]);rw[c]at s1;cases s1;rw[k1]at z;cases z;have C:P.fieldsOf T=fs:=by simp[Program.fieldsOf,c]
   rw[run_equalIn_struct w d T _ _ (by rw[C];exact c) G,C];refine HU (eqF:=ie P n) (fun F a b r p _ _ x y hx g=>yu n F a b r p x y hx g d (by omega)) fs.toList l A B r [] [] j o h E ?_ k2 k4 rfl (by simp) (by simp);intro i f hf;have hi:i<fs.size:=by
    have:=(hw.1 hf).1;simpa using this
   obtain⟨J,g1,g2,_⟩:=I i hi;rw[cc,g1]at hf;cases hf;simpa using g2
  ·rename_i m e u A u' B c
   split at h
   case isFalse=>simp at h
   rename_i hc;obtain⟨hk,rfl,hi⟩:=hc;simp only[aA]at hx g;obtain⟨l,j,k1,k2,rfl⟩:=hx;obtain⟨D,o,k3,k4,rfl⟩:=g;rw[k1]at k3;cases k3;obtain⟨e',s1,s2,q,z⟩:=sT (P:=P) (T:=T) (u:=u') (n:=m) (by unfold gh;rw[hk,c]);rw[c]at s1;cases s1;rw[k1]at q;cases q;obtain⟨i,hi⟩:=j4.1 hi;rw[run_equalIn_array w d _ _ c hi,List.range_eq_range'];exact Gu (eqF:=ie P n) (fun a b r p x y hx g=>yu n e a b r p x y hx g d (by omega)) m 0 A B r [] [] j o h k2 k4 (by simp) (by simp) (by simp) (by simp)
  ·simp at h
end
section
variable{P:dz}{w:dq}{ad ah:Nat->Prop}{β:Bd}{H:Heap}
variable{o:Oper}{ρ:dg->AV}{base:Nat}
theorem Dc{d:BinOp}{T C:dk}{x y:dg}{r:Bool}{K:PV->Prop}{l:List (Nat×Obj)}(k:o.op= .binOp d T x y C)
 (D:d=.eql/\K (.bool r)\/d=.neq/\K (.bool !r))
 (I:∀(H:Heap)(w:dq)(ad ah:Nat->Prop)(β:Bd)(a b:dl),bP P w ad β H ah->(∀p∈l,H[p.1]?=some p.2)->au P w ad β H (ρ x) a->au P w ad β H (ρ y) b->(g8 T a b).run P w=.ok r w/\
  ((∃x,a=.bool x)\/(∃x,a=.agg x)\/(∃p n c,a=.slice p n c)\/(∃m,a=.map m)\/a=.nilFunc\/(∃f x y,a=.func f x y)\/(∃p,a=.pointer p)\/(a=.nilIface/\me y=true))/\(∀u v,a=.agg u->b=.agg v->P.eqGuardType P.depth T=false)):
 ∃v,K v/\bg P o ρ base {v:=.p v,ak:=l}:=by
 have key:∀v,K v->(∀(w:dq)(a b:dl),(g8 T a b).run P w= .ok r w->((∃x,a= .bool x)\/(∃x,a= .agg x)\/(∃p n c,a= .slice p n c)\/(∃m,a= .map m)\/a= .nilFunc\/(∃f x y,a= .func f x y)\/(∃p,a= .pointer p)\/a= .nilIface)->
  ∃q,v=.bool q/\(binOp d T a b).run P w=.ok (.bool q) w)->∃v,K v/\bg P o ρ base {v:=.p v,ak:=l}:=by
  intro v J hq;refine⟨v,J,bg.same fun H w ad ah β s G t ak=>?_⟩;obtain⟨L,z,A⟩:=I H w ad ah β _ _ G ak (t x (by simp[k,g0])).1 (t y (by simp[k,g0])).1;obtain⟨q,rfl,F⟩:=hq w _ _ L (by rcases z with h|h|h|h|h|h|h|h<;>simp[h]);refine⟨.bool q,?_,by simp[au,aA],by simp[aC]⟩;simp only[dp,k];refine er ?_;have E:(eqGuard d T x y (s x) (s y)).run P w=.ok () w:=by
   rcases z with⟨p,e⟩|⟨p,e⟩|⟨p,n,c,e⟩|⟨m,e⟩|e|⟨f,M,N,e⟩|⟨p,e⟩|⟨e,hc⟩
   all_goals rw[e]at A⊢
   case inr.inl=>
    cases hy:s y with
    |agg B=>
     exact run_eqGuard_agg w d T x y p B (A p B rfl hy)
    |_=>cases d<;>rfl
   case inr.inr.inr.inr.inr.inr.inr=>
    cases y<;>simp[me]at hc;unfold eqGuard;cases d<;>simp<;>(split<;>simp_all)
   all_goals (cases d<;>rfl)
  simp[E,F]
 rcases D with⟨rfl,j⟩|⟨rfl,j⟩
 ·exact key _ j fun w a b g i=>⟨_,rfl,(HM g i).1⟩
 ·exact key _ j fun w a b g i=>⟨_,rfl,(HM g i).2⟩
theorem yn(T:dk)(a b:dl):∃d,9<=d+1/\g8 T a b=g7 (d+1) T a b:=⟨9999,by omega,rfl⟩
theorem Jc{T:dk}{c:Bool}{b:AV}{k:uq}(h:du P T c b=some k):
 (k=.ptr/\b=.p .dC/\∃e,P.underlying T=some (.pointer e))\/(k=.slice/\b=.p .aN/\∃e,P.underlying T=some (.slice e))\/
 (k=.map/\b=.p .fw/\∃e f,P.underlying T=some (.map e f))\/(k=.func/\b=.p .gG/\∃e f g,P.underlying T=some (.func e f g))\/(k=.iface/\b=.p .fS/\c=true/\∃m,P.underlying T=some (.interface m)):=by
 unfold du at h
 split at h<;>first
  |(split at h
    ·rename_i a;simp at h;subst h;simp[a]
    ·simp at h)
  |simp at h
theorem aCK{T:dk}{c:Bool}{H0:Heap}{a b:AV}{r:Bool}{k:uq}(hk:du P T c b=some k)(h:cS H0 k a=some r){l s:dl}(ak:∀p∈dv H0 a,H[p.1]?=some p.2)(i:au P w ad β H a l)(C:au P w ad β H b s):
 (g8 T l s).run P w=.ok r w/\((∃x,l=.bool x)\/(∃x,l=.agg x)\/(∃p n c,l=.slice p n c)\/(∃m,l=.map m)\/l=.nilFunc\/(∃f x y,l=.func f x y)\/(∃p,l=.pointer p)\/(l=.nilIface/\c=true))/\(∀u v,l=.agg u->s=.agg v->P.eqGuardType P.depth T=false):=by
 obtain⟨d,_,I⟩:=yn T l s;rw[I];rcases Jc hk with⟨rfl,rfl,e,j⟩|⟨rfl,rfl,e,j⟩|⟨rfl,rfl,e,f,j⟩|⟨rfl,rfl,e,f,g,j⟩|⟨rfl,rfl,G,m,j⟩
 all_goals simp only[au,aA]at C
 all_goals subst C
 ·cases a<;>simp only[cS]at h
  case p v=>
   cases v<;>simp only at h<;>simp at h
   all_goals subst h
   all_goals simp only[au,aA]at i
   ·subst i;simp[g7,db j]
   ·obtain⟨_,_,_,_,_,_,rfl⟩:=i;simp[g7,db j]
  case ptr B path=>
   simp only[au,bK,bO]at i;obtain⟨_,_,_,_,rfl,_⟩:=i
   split at h
   ·simp at h;subst h;simp[g7,db j]
   ·simp at h
  all_goals simp at h
 ·cases a<;>simp only[cS]at h
  case p v=>
   cases v
   case seq o=>
    cases o with
    |nil=>simp at h
    |cons e o=>
     simp at h;subst h;simp only[au,aA]at i;rcases i with⟨J,_⟩|⟨_,_,_,_,_,_,_,_,_,_,_,rfl⟩
     ·cases J
     ·simp[g7,db j]
   all_goals simp only at h
   all_goals simp at h
   all_goals subst h
   all_goals simp only[au,aA]at i
   ·subst i;simp[g7,db j]
   ·obtain⟨_,_,_,_,_,_,_,_,_,_,_,_,rfl⟩:=i;simp[g7,db j]
  case sl B ar ai off len=>
   simp only[au,bK,bO]at i;simp only[dv]at ak
   split at h
   case h_2=>simp at h
   rename_i A M L o t;rw[t]at ak;have z:=ak _ (h2.2 rfl)
   split at h
   case isFalse=>simp at h
   rename_i hc;obtain⟨rfl,rfl⟩:=hc;obtain⟨_,E,F⟩:=i.2 A o z
   by_cases q:cX A o
   ·rw[E q];have:r=true:=by simp at h;rw[<-h];simp[q.1,q.2]
    subst this;simp[g7,db j]
   ·rw[F q];have:r=false:=by
     simp at h;rw[<-h];unfold cX at q
     by_cases D:A.gr=true
     ·have K:o≠[]:=fun h=>q ⟨D,h⟩;simp[K]
     ·simp[D]
    subst this;simp[g7,db j]
  all_goals simp at h
 ·cases a<;>simp only[cS]at h
  case p v=>
   cases v<;>simp only at h<;>simp at h
   all_goals subst h
   all_goals simp only[au,aA]at i
   ·subst i;simp[g7,db j]
   ·obtain⟨_,_,_,_,_,_,rfl⟩:=i;simp[g7,db j]
  case map B=>
   simp only[au,bK,bO]at i;simp only[dv]at ak
   split at h
   case h_2=>simp at h
   rename_i fz o t;rw[t]at ak;have z:=ak _ (h2.2 rfl);rw[i.2.1 ⟨_,z,trivial⟩];simp at h;subst h;simp[g7,db j]
  all_goals simp at h
 ·cases a<;>simp only[cS]at h
  case p v=>
   cases v<;>simp only at h<;>simp at h
   all_goals subst h
   all_goals simp only[au,aA]at i
   ·obtain⟨_,_,_,_,rfl⟩:=i;simp[g7,db j]
   ·subst i;simp[g7,db j]
  case func f first ic=>
   simp only[au]at i;obtain⟨_,_,_,_,rfl⟩:=i;simp at h;subst h;simp[g7,db j]
  all_goals simp at h
 ·cases a<;>simp only[cS]at h
  case p v=>
   cases v<;>simp only at h<;>simp at h
   all_goals subst h
   all_goals simp only[au,aA]at i
   subst i;simp[g7,db j,G]
  all_goals simp at h
theorem aC7{i:BinOp}{T s:dk}{x y:dg}{K:PV->Prop}{H0:Heap}(j:o.op= .binOp i T x y s)(h:kt P i T (me y) H0 (ρ x) (ρ y) K):
 ∃v,K v/\bg P o ρ base {v:=.p v,ak:=dv H0 (ρ x)}:=by
 unfold kt at h
 split at h
 ·rename_i k a C b hx g;exact aDl j hx g h.1 h.2 _
 ·rename_i a b hx g;exact aDt j hx g h _
 ·rename_i a b hx g;obtain⟨z,h⟩:=h;have m:=S7 z;refine Dc (r:=a==b) j ?_ ?_
  ·split at h
   ·exact .inl ⟨rfl,h⟩
   ·exact .inr ⟨rfl,h⟩
   ·exact h.elim
  ·intro H w ad ah β n q e ak f c;rw[hx]at f;rw[g]at c;simp only[au,aA]at f c;subst f;subst c;obtain⟨d,_,l⟩:=yn T (.bool a) (.bool b);rw[l];exact⟨by simp[g7,db m],.inl ⟨_,rfl⟩,fun u v m _=>by cases m⟩
 ·rename_i u fs u' t hx g;obtain⟨B,h⟩:=h;obtain⟨r,e,c⟩:∃r,ie P 9 T (.st u fs) (.st u' t)=some r/\(i=.eql/\K (.bool r)\/i=.neq/\K (.bool !r)):=by
   split at h
   ·rename_i r e;exact⟨r,e,.inl ⟨rfl,h⟩⟩
   ·rename_i r e;exact⟨r,e,.inr ⟨rfl,h⟩⟩
   ·exact h.elim
  refine Dc (r:=r) j c ?_;intro H w ad ah β n q _ ak f c;rw[hx]at f;rw[g]at c;simp only[au]at f c;refine⟨?_,?_,fun u v _ _=>by simpa[rM]using B⟩
  ·obtain⟨d,A,l⟩:=yn T n q;rw[l];exact yu 9 T _ _ r e _ _ f c (d+1) A
  ·simp only[aA]at f;obtain⟨_,_,_,_,rfl⟩:=f;exact .inr (.inl ⟨_,rfl⟩)
 ·rename_i hx g
  split at h
  case h_2=>exact h.elim
  rename_i k hk;obtain⟨r,e,c⟩:∃r,cS H0 k (ρ x)=some r/\(i=.eql/\K (.bool r)\/i=.neq/\K (.bool !r)):=by
   split at h
   ·rename_i r e;exact⟨r,e,.inl ⟨rfl,h⟩⟩
   ·rename_i r e;exact⟨r,e,.inr ⟨rfl,h⟩⟩
   ·exact h.elim
  exact Dc (r:=r) j c fun H w ad ah β n q _ ak f c=>aCK hk e ak f c
end
section
variable{P:dz}{w:dq}{ad ah:Nat->Prop}{β:Bd}{H:Heap}
variable{o:Oper}{ρ:dg->AV}{base:Nat}
theorem nG{c:dg->dl}:∀(l:List dg),(∀x∈l,au P w ad β H (ρ x) (c x)/\aC (aG H) (ρ x))->br P w ad β H (l.map ρ) (l.map c)/\aR (aG H) (l.map ρ)
 |[],_=>by simp[br,aR]
 |x::l,h=>by
  have a:=h x (by simp);have b:=nG l (fun y d=>h y (by simp[d]));simp only[hC,br,aR];exact⟨⟨_,_,rfl,a.1,b.1⟩,a.2,b.2⟩
theorem yg{H0:Heap}:∀(l:List AV){j:List PV}{ak aJ:List (Nat×Obj)}{H:Heap}{ad:Nat->Prop}{vs:List dl},fF H0 l=some (j,ak,aJ)->bP P w ad β H ah->br P w ad β H l vs->aR (aG H) l->
 (∀p∈ak,∃f fz t,p.2=.box fz t/\H[p.1]?=some (.box f t))->∃aD,bR P ah ad w β H aD w β (bm H aJ)/\bn P w aD j vs/\∀p∈aJ,p.1<H0.length/\p.2≠.hole
 |[],j,ak,aJ,H,ad,vs,h,i,e,_,_=>by
  simp[fF]at h;obtain⟨rfl,rfl,rfl⟩:=h;simp only[br]at e;exact⟨ad,bR.refl i,by simpa[bn]using e,by simp⟩
 |a::l,j,ak,aJ,H,ad,vs,h,i,e,d,m=>by
  simp only[br]at e;obtain⟨y,x,rfl,n,u⟩:=e;simp only[aR]at d;cases a with
  |p v=>
   simp only[fF]at h
   split at h
   case h_2=>simp at h
   rename_i G B E k;simp at h;obtain⟨rfl,rfl,rfl⟩:=h;obtain⟨aD,q1,o,q⟩:=yg l k i u d.2 m;simp only[au]at n;exact⟨aD,q1,by simp only[bn];exact⟨y,x,rfl,aA.mono q1.bQ (fun _ _=>rfl) _ _ n,o⟩,q⟩
  |ptr b path=>
   cases path with
   |cons _ _=>simp[fF]at h
   |nil=>
    simp only[fF]at h
    split at h
    case h_2=>simp at h
    rename_i fz t G B E C k;simp at h;obtain⟨rfl,rfl,rfl⟩:=h;obtain⟨f,J,K,e1,e2⟩:=m (b,.box fz (.p t)) (by simp);cases e1;have D:kK H (.ptr b [])=some (.ct t,H.set b (.box true (.p t))):=by
     simp only at e2;simp[kK,e2,kT]
    obtain⟨I,g,F⟩:=JR D i n d.1;have A:b<H.length:=(hw.1 e2).1;obtain⟨z,q1,o,q⟩:=yg l k g.rel (br.mono g.bQ (fun _ _=>rfl) g.step _ _ d.2 u) (aR.mono g.eQ _ d.2) (by
     intro p c;obtain⟨f2,r,t2,g1,g2⟩:=m p (by simp[c])
     by_cases s:b=p.1
     ·rw[<-s]at g2⊢;simp only at e2;rw[e2]at g2;cases g2;exact⟨true,r,_,g1,by rw[hz A]⟩
     ·exact⟨f2,r,t2,g1,by rw[hG s];exact g2⟩)
    refine⟨z,by simpa only[bm]using g.trans q1,?_,?_⟩
    ·simp only[bn];exact⟨y,x,rfl,aA.mono q1.bQ (fun _ _=>rfl) _ _ F,o⟩
    ·intro p c;rcases hE.1 c with rfl|c
     ·exact⟨(hw.1 C).1,by simp⟩
     ·exact q p c
  |_=>simp[fF]at h
theorem Ub{f:ed}{fi ca:Array dg}(E:o.op= .makeFunc (.func f) fi ca):
 (∀a b,ef (fi.toList.map ρ)=some a->ef (ca.toList.map ρ)=some b->bg P o ρ base {v:=.p (.func f a b)})/\
 bg P o ρ base {v:=.func f (fi.toList.map ρ) (ca.toList.map ρ)}/\
 (∀(H0:Heap) a b ak aJ,fF H0 (fi.toList.map ρ)=some (a,[],[])->fF H0 (ca.toList.map ρ)=some (b,ak,aJ)->bg P o ρ base {v:=.p (.func f a b),ak,aJ}/\(∀p∈ak,H0[p.1]?=some p.2)/\(∀p∈aJ,p.1<H0.length/\p.2≠.hole)):=by
 have g:∀x,x∈fi.toList\/x∈ca.toList->x∈o.op.operands:=by
  intro x hx;rw[E];simp only[g0,Array.mem_append];simpa using hx
 have u:∀(c:dg->dl)(w:dq),(dp c o).run P w=.ok (.value (.func (.func f) (fi.toList.map c).toArray (ca.toList.map c).toArray)) w:=by
  intro c w;simp only[dp,E];refine er ?_;have j:(fi.toList.map c).toArray=fi.map c:=by apply cb;simp
  have k:(ca.toList.map c).toArray=ca.map c:=by apply cb;simp
  rw[j,k];simp[Instr.makeFunc]
 refine⟨?_,?_,?_⟩
 ·intro a b s m;refine bg.same fun H w ad ah β c z e _=>⟨_,u c w,?_,by simp[aC]⟩
  obtain⟨j,_⟩:=nG fi.toList (fun x hx=>e x (g x (.inl hx)));obtain⟨k,_⟩:=nG ca.toList (fun x hx=>e x (g x (.inr hx)));rw[lR s]at j;rw[lR m]at k;simp only[au,aA];exact⟨_,_,jq.1 j,jq.1 k,rfl⟩
 ·refine bg.same fun H w ad ah β c z e _=>⟨_,u c w,?_,?_⟩
  ·simp only[au];exact⟨_,_,(nG fi.toList (fun x hx=>e x (g x (.inl hx)))).1,(nG ca.toList (fun x hx=>e x (g x (.inr hx)))).1,rfl⟩
  ·simp only[aC];exact⟨(nG fi.toList (fun x hx=>e x (g x (.inl hx)))).2,(nG ca.toList (fun x hx=>e x (g x (.inr hx)))).2⟩
 ·intro H0 a b ak aJ s m;have D:∀p∈ak,H0[p.1]?=some p.2/\∃fz t,p.2=.box fz t:=by
   have:∀(l:List AV)(b:List PV)(ak aJ:List (Nat×Obj)),fF H0 l=some (b,ak,aJ)->∀p∈ak,H0[p.1]?=some p.2/\∃fz t,p.2=.box fz t:=by
    intro l
    induction l with
    |nil=>intro b ak aJ h;simp[fF]at h;obtain⟨rfl,rfl,rfl⟩:=h;simp
    |cons x l q=>
     intro b ak aJ h;cases x with
     |p v=>
      simp only[fF]at h
      split at h
      case h_2=>simp at h
      rename_i B n A i;simp at h;obtain⟨rfl,rfl,rfl⟩:=h;exact q _ _ _ i
     |ptr J path=>
      cases path with
      |cons _ _=>simp[fF]at h
      |nil=>
       simp only[fF]at h
       split at h
       case h_2=>simp at h
       rename_i fz t B n A y i;simp at h;obtain⟨rfl,rfl,rfl⟩:=h;intro p d;rcases hE.1 d with rfl|d
       ·exact⟨y,_,_,rfl⟩
       ·exact q _ _ _ i p d
     |_=>simp[fF]at h
   exact this _ _ _ _ m
  have K:∀p∈aJ,p.1<H0.length/\p.2≠.hole:=by
   have:∀(l:List AV)(b:List PV)(ak aJ:List (Nat×Obj)),fF H0 l=some (b,ak,aJ)->∀p∈aJ,p.1<H0.length/\p.2≠.hole:=by
    intro l
    induction l with
    |nil=>intro b ak aJ h;simp[fF]at h;obtain⟨rfl,rfl,rfl⟩:=h;simp
    |cons x l q=>
     intro b ak aJ h;cases x with
     |p v=>
      simp only[fF]at h
      split at h
      case h_2=>simp at h
      rename_i B n A i;simp at h;obtain⟨rfl,rfl,rfl⟩:=h;exact q _ _ _ i
     |ptr J path=>
      cases path with
      |cons _ _=>simp[fF]at h
      |nil=>
       simp only[fF]at h
       split at h
       case h_2=>simp at h
       rename_i fz t B n A y i;simp at h;obtain⟨rfl,rfl,rfl⟩:=h;intro p d;rcases hE.1 d with rfl|d
       ·exact⟨(hw.1 y).1,by simp⟩
       ·exact q _ _ _ i p d
     |_=>simp[fF]at h
   exact this _ _ _ _ m
  refine⟨?_,fun p d=>(D p d).1,K⟩;intro H w ad ah β c z e n _;obtain⟨j,N⟩:=nG fi.toList (fun x hx=>e x (g x (.inl hx)));obtain⟨k,G⟩:=nG ca.toList (fun x hx=>e x (g x (.inr hx)));obtain⟨O,r,L,_⟩:=yg _ s z j N (by simp);simp only[bm]at r;obtain⟨I,q1,M,_⟩:=yg _ m r.rel (br.mono r.bQ (fun _ _=>rfl) r.step _ _ G k) G (by
   intro p d;obtain⟨_,fz,t,F⟩:=D p d;have C:=n p d;rw[F]at C;exact⟨fz,fz,t,F,C⟩)
  simp only[newAt,hD];refine⟨_,_,w,β,I,u c w,.inl rfl,r.trans q1,?_,by simp[aC]⟩;simp only[au,aA];exact⟨_,_,bn.mono q1.bQ (fun _ _=>rfl) _ _ L,M,rfl⟩
theorem Bc{x:dg}(d:o.op=.nilCheck x)(h:(∃b p,ρ x=.ptr b p)\/(∃b v e i p,ρ x=.bV b v e i p)\/∃t,ρ x=.p (.ct t)):bg P o ρ base {v:=ρ x}:=by
 refine bg.same fun H w ad ah β f l k ak=>?_;have c:=k x (by simp[d,g0]);refine⟨f x,?_,c⟩;have j:∃a,f x=.pointer (some a):=by
  rcases h with⟨b,p,hx⟩|⟨b,v,e,i,p,hx⟩|⟨t,hx⟩
  ·have c:=c.1;rw[hx]at c;simp only[au,bK,bO]at c;obtain⟨_,_,_,_,h,_⟩:=c;exact⟨_,h⟩
  ·have c:=c.1;rw[hx]at c;simp only[au,bK,bO]at c;obtain⟨_,_,_,_,h,_⟩:=c;exact⟨_,h⟩
  ·have c:=c.1;rw[hx]at c;simp only[au,aA]at c;obtain⟨_,_,_,_,_,_,h⟩:=c;exact⟨_,h⟩
 obtain⟨a,g⟩:=j;simp[dp,d,g]
end
section
variable{P:dz}{w:dq}{ad ah:Nat->Prop}{β:Bd}{H:Heap}
variable{o:Oper}{ρ:dg->AV}{base:Nat}
open Go.MapKept
def kn:PV->Prop
 | .st _ _=>False
 |_=>True
theorem C0{T:dk}{key:PV}(h:kn key)(k:PV):fR P T key k=fj key k:=by
 cases key<;>first
  |exact h.elim
  |rfl
theorem Th{T:dk}{key:PV}(h:kn key)(a:List (PV×PV)):lW P T a key=dH P T a key:=by
 cases key<;>first
  |exact h.elim
  |rfl
theorem xM{T:dk}{key:PV}{b:dl}(h:ft P T key=true)(c:kn key)(a:aA P w ad key b):∃d,P.underlying T=some d/\IsKey d b:=by
 unfold ft at h
 split at h
 ·split at h
  ·rename_i e;simp at h;subst h;simp only[aA]at a;subst a;exact⟨_,e,by simp[IsKey]⟩
  ·simp at h
 ·simp only[aA]at a;obtain⟨bs,rfl,_⟩:=a;exact⟨_,xF h,by simp[IsKey]⟩
 ·exact c.elim
 ·simp at h
theorem zf{T:dk}{d:em}(j:P.underlying T=some d){key g:PV}{i v':dl}{r:Bool}(h:ft P T key=true)(p:kn key)(c:fj key g=some r)(e:aA P w ad key i)(f:aA P w ad g v'):
 gt d i v'=some r/\(r=true->i=v'):=by
 unfold ft at h
 split at h
 ·split at h
  ·rename_i k;simp at h;subst h;rw[j]at k;cases k;cases g<;>simp only[fj]at c<;>try (simp at c;done)
   split at c
   ·rename_i hk;subst hk;simp at c;subst c;simp only[aA]at e f;subst e;subst f;simp[gt]
   ·simp at c
  ·simp at h
 ·rename_i hs;have:=xF h;rw[j]at this;cases this;cases g<;>simp only[fj]at c<;>try (simp at c;done)
  simp at c;subst c;simp only[aA]at e f;obtain⟨a,rfl,e1⟩:=e;obtain⟨b,rfl,e2⟩:=f;subst e1;subst e2;have n:(h9 (fun x:UInt8=>x.toNat) a.data.toList=h9 (fun x:UInt8=>x.toNat) b.data.toList)↔a=b:=by
   constructor
   ·intro h;have:=A6 h;apply ByteArray.ext;apply cb;exact this
   ·intro h;rw[h]
  by_cases hc:a=b
  ·subst hc;simp[gt,gA]
  ·have l:¬(h9 (fun x:UInt8=>x.toNat) a.data.toList=h9 (fun x:UInt8=>x.toNat) b.data.toList):=fun h=>hc (n.1 h);have m:(a==b)=false:=by
    cases o:(a==b)with
    |false=>rfl
    |true=>exact(hc ((gA a b).1 o)).elim
   simp[gt,l,m]
 ·exact p.elim
 ·simp at h
theorem Co{T:dk}{d:em}(o:P.underlying T=some d){key:PV}{g:dl}(hk:ft P T key=true)(m:kn key)(l:aA P w ad key g):∀(b:List (PV×PV))(a:List ea)(i:Nat)(r:Option PV),cz P w ad b a->dH P T b key=some r->
 (r=none/\gc d g a i=some none)\/∃v j e,r=some v/\gc d g a i=some (some (i+j,e.val))/\a[j]?=some e/\aA P w ad v e.val/\e.key=g/\
  (∀(x:PV)(k:dl),aA P w ad x k->cz P w ad (fX b key x) (a.modify j fun e=>{e with key:=g,val:=k}))
 |[],a,i,r,f,h=>by
  simp only[cz]at f;simp[dH]at h;subst f;subst h;exact .inl ⟨rfl,rfl⟩
 |(s,v')::b,a,i,r,f,h=>by
  simp only[cz]at f;obtain⟨e,rest,rfl,n,p,q⟩:=f;simp only[dH,C0 m]at h
  split at h
  ·rename_i c;simp at h;subst h;obtain⟨g1,g2⟩:=zf o hk m c l n;refine .inr ⟨v',0,e,rfl,by simp[gc,g1],rfl,p,(g2 rfl).symm,fun x k hx=>?_⟩;simp only[fX,c,if_true];simp only[cz];exact⟨_,rest,rfl,l,hx,q⟩
  ·rename_i c;obtain⟨g1,g2⟩:=zf o hk m c l n;rcases Co o hk m l b rest (i+1) r q h with⟨rfl,f1⟩|⟨v,j,e',rfl,f1,f2,f3,f4,f5⟩
   ·exact .inl ⟨rfl,by simp[gc,g1,f1]⟩
   ·refine .inr ⟨v,j+1,e',rfl,by simp[gc,g1,f1];omega,by simpa using f2,f3,f4,fun x k hx=>?_⟩;simp only[fX,c];rw[if_neg (by simp)];simp only[cz];exact⟨e,_,by simp[List.modify_succ_cons],n,p,f5 x k hx⟩
  ·simp at h
theorem Ir{X:Array dl}{y:dk->PV->PV->Option Bool}(e:Bool)(n:Nat):
 ∀(fs:List ee)(l:List Nat)(b:List PV)(r:Bool)(d:List dl)(o:List (List dl)),iV P y (fs.map (·.type)) b b=some r->(∀f∈fs,f.name≠ "_" /\tg P f.type=true)->
 (∀(i:Nat)(f:ee),fs[i]?=some f->f.offset=d.length+(l.take i).sum)->aY P w ad l b o->
 X.toList=d++o.flatten->(forIn fs j5 (fun f _=>if f.name≠ "_" then(do
  let x<-part f.type X f.offset
  gg e (n+1) f.type x
  pure (ForInStep.yield j5))else pure (ForInStep.yield j5):ee->PUnit->Sem (ForInStep PUnit))).run P w=.ok j5 w
 |[],l,b,r,d,o,_,_,_,_,_=>by simp
 |f::fs,l,b,r,d,o,h,s,t,hx,q=>by
  cases b with
  |nil=>simp[iV]at h
  |cons a b=>
   cases l with
   |nil=>simp[aY]at hx
   |cons m l=>
    simp only[hC,iV]at h
    split at h
    case isFalse=>simp at h
    rename_i hk
    split at h
    case h_2=>simp at h
    rename_i I F H z;obtain⟨c,cs,rfl,hc,A,E⟩:=vE hx;obtain⟨C,p⟩:=s f (by simp);have D:f.offset=d.length:=by simpa using t 0 f (by simp)
    obtain⟨x,u,J⟩:=qQ hk.1 hc (pre:=d) (post:=cs.flatten) (cs:=X) (by rw[q];simp);rw[<-D]at u;have v:(gg e (n+1) f.type x).run P w=.ok () w:=by
     unfold tg at p;unfold gg
     split at p
     ·rename_i k j;simp[db j]
     ·rename_i j;simp[db j]
     ·rename_i j;simp[db j]
     ·cases p
    have G:=Ir e n fs l b F (d++c) cs z (fun f hf=>s f (by simp[hf])) (by
     intro i g B;have:=t (i+1) g (by simpa using B);rw[this,ih,ix,hA,A];omega) E (by rw[q];simp)
    rw[List.forIn_cons];simp only[C,ne_eq,not_false_eq_true,if_true,hl,u,v,hh,hm];exact G
theorem SI{T:dk}{cF:Array ee}{u:Nat}{fs:List PV}{g:dl}(b:P.underlying T=some (.struct cF))(j:cF.toList.all (fun f=>f.name != "_" &&tg P f.type)=true)(a:(ie P 9 T (.st u fs) (.st u fs)).isSome=true)(d:aA P w ad (.st u fs) g)(e:Bool):
 (gg e 10000 T g).run P w=.ok () w:=by
 obtain⟨r,a⟩:=j4.1 a;unfold ie at a;simp only[b]at a
 split at a
 case isFalse=>simp at a
 rename_i hc;obtain⟨hk,-,-,-⟩:=hc;simp only[aA]at d;obtain⟨l,c,k1,k2,rfl⟩:=d;obtain⟨o,p,s1,s2,q,h,s,k⟩:=uP (P:=P) (T:=T) (u:=u) (n:=cF.size) (by unfold fQ;rw[hk,b]);rw[b]at s1;cases s1;rw[k1]at h;cases h;have key:=Ir (w:=w) (ad:=ad) (X:=c.flatten.toArray) e 9998 cF.toList l fs r [] c a (fun f hf=>by
  have:=ii.1 j f hf;simpa using this) (by
   intro i f hf;have hi:i<cF.size:=by
    have:=(hw.1 hf).1;simpa using this
   obtain⟨m,g1,g2,_⟩:=k i hi;rw[cc,g1]at hf;cases hf;simpa using g2) k2 (by simp)
 unfold gg;simp only[hl,db b,hh];rw[<-Array.forIn_toList];rw[key];simp
theorem BS{T:dk}{u:Nat}{fs:List PV}{g:dl}(p:aA P w ad (.st u fs) g):∀(k:List (PV×PV))(f:List ea)(i:Nat)(r:Option PV),cz P w ad k f->dH P T k (.st u fs)=some r->
 (r=none/\(ge T g f i).run P w=.ok none w/\∀x n born,aA P w ad x n->cz P w ad (fX k (.st u fs) x) (f++[{key:=g,val:=n,born}]))\/∃(v:PV)(j:Nat)(e:ea),r=some v/\(ge T g f i).run P w=.ok (some (i+j,e.val)) w/\aA P w ad v e.val
 |[],f,i,r,m,h=>by
  simp only[cz]at m;simp[dH]at h;subst m;subst h;refine .inl ⟨rfl,by simp[ge],fun x n born hx=>?_⟩;simp only[fX,cz];exact⟨_,[],rfl,p,hx,rfl⟩
 |(y,v')::k,f,i,r,m,h=>by
  simp only[cz]at m;obtain⟨e,rest,rfl,s,t,z⟩:=m;simp only[dH]at h;have q:∀b,fR P T (.st u fs) y=some b->(g8 T g e.key).run P w=.ok b w/\fj (.st u fs) y=some b:=by
   intro b l;simp only[fR]at l
   split at l
   ·rename_i a c A hc;cases a<;>cases c<;>simp at l<;>subst l<;>
    ·obtain⟨d,B,hq⟩:=yn T g e.key;rw[hq];exact⟨yu 9 T _ _ _ A _ _ p s _ B,hc⟩
   ·simp at l
  split at h
  ·rename_i o;simp at h;subst h;obtain⟨g1,g2⟩:=q _ o;exact .inr ⟨v',0,e,rfl,by simp[ge,g1],t⟩
  ·rename_i o;obtain⟨g1,g2⟩:=q _ o;rcases BS p k rest (i+1) r z h with⟨rfl,f1,f2⟩|⟨v,j,e',rfl,f1,f3⟩
   ·refine .inl ⟨rfl,by simp[ge,g1,f1],fun x n born hx=>?_⟩;simp only[fX,g2];rw[if_neg (by simp)];simp only[cz];exact⟨e,_,rfl,s,t,f2 x n born hx⟩
   ·refine .inr ⟨v,j+1,e',rfl,?_,f3⟩;simp[ge,g1,f1];omega
  ·simp at h
theorem Cp{T:dk}{cF:Array ee}(c:P.underlying T=some (.struct cF)){b:dl}{a:List ea}{f:Option (Nat×dl)}(h:(ge T b a 0).run P w=.ok f w):(gi T b a).run P w=.ok f w:=by
 unfold gi;simp only[hl,db c,hh];cases a with
 |nil=>
  simp only[gc];simpa[ge]using h
 |cons e es=>
  have:gc (.struct cF) b (e::es) 0=none:=by simp[gc,gt]
  rw[this];exact h
theorem Bs{T:dk}{key:PV}(h:ft P T key=true)(a:¬kn key):∃u fs cF,key= .st u fs/\P.underlying T=some (.struct cF)/\cF.toList.all (fun f=>f.name != "_" &&tg P f.type)=true/\(ie P 9 T (.st u fs) (.st u fs)).isSome=true:=by
 cases key<;>first
  |exact(a trivial).elim
  |skip
 rename_i u fs;simp only[ft]at h
 split at h
 ·rename_i cF b;rw[da]at h;exact⟨u,fs,cF,rfl,b,h.1,h.2⟩
 ·cases h
theorem Lq{T:dk}{key:PV}{g:dl}(hk:ft P T key=true)(f:aA P w ad key g){b:List (PV×PV)}{a:List ea}{r:Option PV}(l:cz P w ad b a)(h:dH P T b key=some r):
 (∀e,(gg e 10000 T g).run P w=.ok () w)/\
 ((r=none/\(gi T g a).run P w=.ok none w)\/∃(v:PV)(j:Nat)(e:ea),r=some v/\(gi T g a).run P w=.ok (some (j,e.val)) w/\aA P w ad v e.val):=by
 by_cases i:kn key
 ·obtain⟨d,c,o⟩:=xM hk i f;refine⟨fun e=>run_checkKey c o _ 9999,?_⟩;rcases Co c hk i f b a 0 r l h with⟨rfl,f1⟩|⟨v,j,e,rfl,f1,f2,f3,f4,_⟩
  ·exact .inl ⟨rfl,run_findKey c f1⟩
  ·exact .inr ⟨v,0+j,e,rfl,run_findKey c f1,f3⟩
 ·obtain⟨u,fs,cF,rfl,k,m,n⟩:=Bs hk i;refine⟨fun e=>SI k m n f e,?_⟩;rcases BS f b a 0 r l h with⟨rfl,f1,_⟩|⟨v,j,e,rfl,f1,f3⟩
  ·exact .inl ⟨rfl,Cp k f1⟩
  ·exact .inr ⟨v,0+j,e,rfl,Cp k f1,f3⟩
theorem Ij{T:dk}{key x:PV}{g i:dl}(d:aA P w ad key g)(hx:aA P w ad x i)(born:Nat):∀(a:List (PV×PV))(c:List ea),kn key->cz P w ad a c->dH P T a key=some none->cz P w ad (fX a key x) (c++[{key:=g,val:=i,born}])
 |[],c,_,b,_=>by
  simp only[cz]at b;subst b;simp only[fX,cz];exact⟨_,[],rfl,d,hx,rfl⟩
 |(n,v')::a,c,f,b,h=>by
  simp only[cz]at b;obtain⟨e,rest,rfl,j,k,l⟩:=b;simp only[dH,C0 f]at h
  split at h
  ·simp at h
  ·rename_i m;simp only[fX,m];rw[if_neg (by simp)];simp only[cz];exact⟨e,_,rfl,j,k,Ij (T:=T) d hx born a rest f l h⟩
  ·simp at h
def tN(ok:Bool)(z:PV):Option PV->PV
 |some v=>if ok then .aE [v,.bool true]else v
 |none=>if ok then .aE [z,.bool false]else z
theorem UC{T:dk}{c E:dk}{x i:dg}{ok:Bool}{key z:PV}{r:Option PV}{k:List (PV×PV)}(D:o.op= .lookup T x i ok)(g:jf P T=some (c,E))(G:cH P E=some z)(hk:ft P c key=true)(C:dH P c k key=some r)
 {ρc:dg->dl}(B:aA P w ad key (ρc i))(hx:(ρc x=.map none/\k=[])\/∃b a d,ρc x=.map (some b)/\w.heap[b]?=some (.map a d)/\cz P w ad k a.toList):
 ∃p,(dp ρc o).run P w=.ok (.value p) w/\aA P w ad (tN ok z r) p:=by
 have m:P.underlying T=some (.map c E):=by
  unfold jf at g
  split at g
  ·rename_i F;simp at g;rw[F,g.1,g.2]
  ·simp at g
 obtain⟨u,t,z2⟩:=LP G;obtain⟨a,s,n⟩:∃a:Array ea,((ρc x=.map none/\a=#[])\/∃b d,ρc x=.map (some b)/\w.heap[b]?=some (.map a d))/\cz P w ad k a.toList:=by
  rcases hx with⟨hx,rfl⟩|⟨b,a,d,hx,h,n⟩
  ·exact⟨#[],.inl ⟨hx,rfl⟩,by simp[cz]⟩
  ·exact⟨a,.inr ⟨b,d,hx,h⟩,n⟩
 obtain⟨l,y⟩:=Lq hk B n C
 have q:∀(f:Option (Nat×dl))(v:dl)(b:Bool),(gi c (ρc i) a.toList).run P w= .ok f w->(f=none/\v=u/\b=false\/∃j,f=some (j,v)/\b=true)->
  (dp ρc o).run P w=.ok (.value (if ok then .tuple #[v,.bool b]else v)) w:=by
  intro f v b hf A;simp only[dp,D];refine er ?_;rcases A with⟨rfl,rfl,rfl⟩|⟨j,rfl,rfl⟩
  ·rcases s with⟨hx,rfl⟩|⟨b,d,hx,h⟩
   ·have hf:(gi c (ρc i) []).run P w=.ok none w:=hf;cases ok<;>simp[gm,db m,hx,l,hf,t]
   ·cases ok<;>simp[gm,db m,hx,gy h,l,hf,t]
  ·rcases s with⟨hx,rfl⟩|⟨b,d,hx,h⟩
   ·have hf:(gi c (ρc i) []).run P w=.ok (some (j,v)) w:=hf;cases ok<;>simp[gm,db m,hx,l,hf]
   ·cases ok<;>simp[gm,db m,hx,gy h,l,hf]
 rcases y with⟨rfl,f1⟩|⟨v,j,e,rfl,f1,f3⟩
 ·refine⟨_,q none u false f1 (.inl ⟨rfl,rfl,rfl⟩),?_⟩;cases ok with
  |true=>simp only[tN,if_true,aA,bn];exact⟨_,⟨_,_,rfl,z2 w ad,_,_,rfl,rfl,rfl⟩,rfl⟩
  |false=>simpa[tN]using z2 w ad
 ·refine⟨_,q _ e.val true f1 (.inr ⟨_,rfl,rfl⟩),?_⟩;cases ok with
  |true=>simp only[tN,if_true,aA,bn];exact⟨_,⟨_,_,rfl,f3,_,_,rfl,rfl,rfl⟩,rfl⟩
  |false=>simpa[tN]using f3
theorem uZ{T:dk}{c E:dk}{x g:dg}{ok:Bool}{key z:PV}{r:Option PV}{es:List (PV×PV)}{ak:List (Nat×Obj)}(f:o.op= .lookup T x g ok)(n:jf P T=some (c,E))(u:cH P E=some z)(hi:ρ g= .p key)(hk:ft P c key=true)(q:dH P c es key=some r)
 (hx:(ρ x=.p .fw/\es=[])\/ρ x=.p (.eJ es)\/∃b fz,ρ x=.map b/\(b,.map fz es)∈ak):
 bg P o ρ base {v:=.p (tN ok z r),ak}:=by
 refine bg.same fun H w ad ah β y t i ak=>?_;have a:=(i x (by simp[f,g0])).1;have e:=(i g (by simp[f,g0])).1;rw[hi]at e;simp only[au]at e;obtain⟨j,c1,c2⟩:=UC f n u hk q (ρc:=y) (w:=w) (ad:=ad) e (by
  rcases hx with⟨hx,rfl⟩|hx|⟨b,fz,hx,s⟩
  ·rw[hx]at a;simp only[au,aA]at a;exact .inl ⟨a,rfl⟩
  ·rw[hx]at a;simp only[au,aA]at a;obtain⟨b,d,clock,_,k,l,m⟩:=a;exact .inr ⟨b,d,clock,m,k,l⟩
  ·rw[hx]at a;simp only[au,bK,bO]at a;have h:=ak _ s;obtain⟨d,clock,k1,k2,_⟩:=t.cB b _ h;exact .inr ⟨_,d,clock,a.2.1 ⟨_,h,trivial⟩,k1,k2⟩)
 exact⟨j,c1,by simpa only[au]using c2,by simp[aC]⟩
theorem Uv{T:dk}(e:o.op=.makeMap T none):bg P o ρ base {v:=.map base,aQ:=[.map false []]}:=by
 intro H w ad ah β i b j _ d;have a:H[base]?=some .hole:=by simpa using d 0 (by simp)
 have g:(dp i o).run P w=.ok (.value (.map (some w.heap.size))) {w with heap:=w.heap.push (.map #[] 0)}:=by
  simp only[dp,e];exact uN (by simp[Instr.makeMap])
 have f:=sO (cap:=0) b a (ob:=.map #[] 0) (o':=.map false [])
  ⟨#[],0,by simp[Bd.at],by simp[cz],by
   simp only[cw,Bd.at,if_true,c9,if_false];exact⟨fun h=>i5 _ (b.bQ _ h),fun h=>i5 _ (b.dX _ h)⟩⟩ trivial
 refine⟨_,_,_,_,ad,g,.inl rfl,f,?_,?_⟩
 ·simp only[au,bK,bO,lH];exact⟨rfl,fun _=>by simp[Bd.at],fun⟨L,c⟩=>by rw[hz (hw.1 a).1]at c;cases c⟩
 ·simp only[aC,lH];exact⟨_,hz (hw.1 a).1,trivial⟩
theorem CQ(f:bP P w ad β H ah){b:Nat}{o o':Obj}(a:H[b]?=some o)(i:o.live)(j:o'.live)(n:∀v,o.has v->o'.has v)(l:∀L,o≠ .loop L){ob:Go.Obj}
 (_hb:β.al b<w.heap.size)(e:¬ad (β.al b)/\¬ah (β.al b))(aB:b9 β H β (H.set b o'))
 (p:eZ P {w with heap:=w.heap.setIfInBounds (β.al b) ob} ad β (H.set b o') ah b o')(q:o'.refs (aG (H.set b o'))):
 bR P ah ad w β H ad {w with heap:=w.heap.setIfInBounds (β.al b) ob} β (H.set b o'):=by
 refine bR.set f (hw.1 a).1 (fun _ _=>⟨rfl,rfl⟩) (fun _ x=>x) (fun _ x=>.inl x) (fun k hk=>by simpa using f.bQ k hk) (by simp)
  (fun k hk _=>?_) (fun _=>.inr ⟨rfl,⟨o,a,i⟩,.inr e.1,e.2⟩) aB p q (fun r v c g=>by rw[a]at c;cases c;exact n v g) (fun L d=>by rw[a]at d;cases d;exact(l L rfl).elim)
 have m:k≠β.al b:=hk.resolve_right (fun h=>h j);simp[Ne.symm m]
theorem HP{T t E:dk}{m k x:dg}{b:Nat}{key v:PV}{a:List (PV×PV)}{r:Option PV}(g:o.op= .mapUpdate T m k x\/o.op= .insert T m k x)(z:jf P T=some (t,E))(ab:ρ m= .map b)(hk:ρ k= .p key)(hx:ρ x= .p v)
 (hf:ft P t key=true)(f:lW P t a key=some r):bg P o ρ base {v:=.p (.aE []),ak:=[(b,.map false a)],aJ:=[(b,.map false (fX a key v))]}:=by
 have N:P.underlying T=some (.map t E):=by
  unfold jf at z
  split at z
  ·rename_i O;simp at z;rw[O,z.1,z.2]
  ·simp at z
 intro H w ad ah β c U Q ak _;have G:H[b]?=some (.map false a):=by simpa using ak
 have M:m∈o.op.operands/\k∈o.op.operands/\x∈o.op.operands:=by
  rcases g with g|g<;>simp[g,g0]
 have l:=(Q m M.1).1;have q:=(Q k M.2.1).1;have B:=(Q x M.2.2).1;rw[ab]at l;rw[hk]at q;rw[hx]at B;simp only[au,bK,bO]at l q B;have l:=l.2.1 ⟨_,G,trivial⟩;obtain⟨i,clock,k1,k2,k3⟩:=U.cB b _ G;have S:¬ad (β.al b)/\¬ah (β.al b):=by
  unfold cw at k3;rw[if_neg (by simp)]at k3;exact k3
 have F:dH P t a key=some r:=by
  by_cases s:kn key
  ·rw[<-Th s];exact f
  ·obtain⟨u,fs,cF,rfl,_⟩:=Bs hf s;simp only[lW]at f
   split at f
   ·rename_i hq;rw[hq];exact f
   ·cases f
 have K:=(Lq hf q k2 F).1 false;have R:β.al b<w.heap.size:=(b5.1 k1).1;have aB:b9 β H β (H.set b (.map false (fX a key v))):=oW G (.inr (.inr (.inl ⟨_,_,_,_,rfl,rfl⟩)))
 have J:∀(y:Array ea)(A:Nat),(gj T (c m) (c k) (c x)).run P w= .ok () {w with heap:=w.heap.setIfInBounds (β.al b) (.map y A)}->cz P w ad (fX a key v) y.toList->
  ∃n I w' aH aD,(dp c o).run P w=.ok n w'/\(n=.value I\/n=.skip/\I=undef)/\
  bR P ah ad w β H aD w' aH (bm H ([(b,.map false (fX a key v))]++newAt base []))/\au P w' aD aH (bm H ([(b,.map false (fX a key v))]++newAt base [])) (.p (.aE [])) I/\
  aC (aG (bm H ([(b,.map false (fX a key v))]++newAt base []))) (.p (.aE [])):=by
  intro y A af ac;have X:(dp c o).run P w=.ok .skip {w with heap:=w.heap.setIfInBounds (β.al b) (.map y A)}:=by
   rcases g with g|g<;>simp[dp,g,af]
  have ag:∀D,ad D->({w with heap:=w.heap.setIfInBounds (β.al b) (.map y A)}:dq).heap[D]?=w.heap[D]?:=by
   intro D aa;have:β.al b≠D:=fun W=>S.1 (W▸aa);simp[this]
  refine⟨_,_,_,β,ad,X,.inr ⟨rfl,rfl⟩,?_,by simp[au,aA,bn,undef],by simp[aC]⟩;simp only[newAt,hD,bm];exact CQ (o':=.map false (fX a key v)) U G trivial trivial (fun _ h=>h) (fun _ h=>by cases h) R S aB ⟨y,A,by simp[R],cz.mono (fun _ x=>x) ag _ _ ac,k3⟩ trivial
 by_cases s:kn key
 case neg=>
  obtain⟨u,fs,cF,rfl,O,_,_⟩:=Bs hf s;have ae:r=none:=by
   simp only[lW]at f
   split at f
   ·simpa using f.symm
   ·cases f
  subst ae;rcases BS q a i.toList 0 none k2 F with⟨_,f1,f2⟩|⟨v',j,e,V,_⟩
  ·have C:=Cp O f1;refine J (i.push {key:=c k,val:=c x,born:=clock}) (clock+1) ?_ ?_
   ·rw[l];simp only[gj,hl,db N,hh,gy k1,K,C,run_setObj_map _ k1]
   ·rw[cv];exact f2 v (c x) clock B
  ·cases V
 obtain⟨d,L,Y⟩:=xM hf s q;rcases Co L hf s q a i.toList 0 r k2 F with⟨rfl,f1⟩|⟨v',j,e,rfl,f1,f2,f3,f4,f5⟩
 ·have C:=run_findKey (w:=w) L f1;refine J (i.push {key:=c k,val:=c x,born:=clock}) (clock+1) ?_ ?_
  ·rw[l];simp only[gj,hl,db N,hh,gy k1,K,C,run_setObj_map _ k1]
  ·rw[cv];exact Ij (T:=t) q B clock a i.toList s k2 F
 ·have C:=run_findKey (w:=w) L f1;have Z:i[j]?=some e:=by simpa using f2
  refine J (i.modify j fun e=>{e with key:=c k,val:=c x}) clock ?_ ?_
  ·rw[l];simp only[gj,hl,db N,hh,gy k1,K,C];simp only[i9,Z,Option.map_some,Option.getD_some,f4,run_keyThatStays Y,hh,run_setObj_map _ k1]
  ·rw[Array.toList_modify];exact f5 v (c x) B
theorem xj{v:PV}:ni v=true->kn v:=by
 cases v<;>simp[ni,kn]
theorem Sk{b:Nat}{o o':Obj}(e:H[b]?=some o)(i:o.uD)(d:o'.uD):b9 β H β (H.set b o'):=by
 have g:b<H.length:=(hw.1 e).1;have a:∀x,x≠b->(H.set b o')[x]?=H[x]?:=fun x hx=>hG (Ne.symm hx);have c:(H.set b o')[b]?=some o':=hz g;refine⟨?_,?_,?_,?_,?_⟩
 ·rintro x _ ⟨fz,t,h⟩;refine⟨?_,rfl⟩
  by_cases hx:x=b
  ·subst hx;rw[c]at h;cases h;exact d.elim
  ·rw[a x hx]at h;exact⟨fz,t,h⟩
 ·rintro x _ ⟨fz,t,h⟩;refine⟨?_,rfl⟩
  by_cases hx:x=b
  ·subst hx;rw[c]at h;cases h;exact d.elim
  ·rw[a x hx]at h;exact⟨fz,t,h⟩
 ·rintro x _ ⟨l,h,j⟩;refine⟨?_,rfl⟩
  by_cases hx:x=b
  ·subst hx;exact⟨o,e,i⟩
  ·rw[a x hx]at h;exact⟨l,h,j⟩
 ·intro x ar ai k f _ h
  by_cases hx:x=b
  ·subst hx;unfold eD at h;rw[c]at h;cases h;exact d.elim
  ·unfold eD at h⊢;rw[a x hx]at h;exact⟨k,f,h,i4 _,Iff.rfl,fun _=>⟨rfl,rfl⟩⟩
 ·rintro x _ ⟨L,h⟩;refine⟨?_,rfl⟩
  by_cases hx:x=b
  ·subst hx;rw[c]at h;cases h;exact d.elim
  ·rw[a x hx]at h;exact⟨L,h⟩
theorem GG:∀{b:List (PV×PV)}{a:List ea},cz P w ad b a->bn P w ad (b.map (·.1)) (a.map (·.key))/\br P w ad β H (b.map fun e=>.p e.2) (a.map (·.val))
 |[],a,h=>by
  simp only[cz]at h;subst h;simp[bn,br]
 |(k,v)::r,a,h=>by
  simp only[cz]at h;obtain⟨e,rest,rfl,c,d,f⟩:=h;obtain⟨i1,i2⟩:=GG f;simp only[hC,bn,br];exact⟨⟨_,_,rfl,c,i1⟩,⟨_,_,rfl,by simpa only[au]using d,i2⟩⟩
theorem Si{b:Nat}{d:Obj}{ks:List PV}{vs:List AV}(h:bP P w ad β H ah)(g:H[b]?=some d)(a:so d=some (ks,vs)):
 d.uD/\(∃c f,w.heap[β.al b]?=some (.map c f)/\bn P w ad ks (c.toList.map (·.key))/\br P w ad β H vs (c.toList.map (·.val))/\cw ad β ah false b)/\aR (aG H) vs:=by
 cases d<;>simp only[so]at a<;>try (cases a;done)
 case map fz es=>
  cases fz
  case true=>simp at a
  simp only[Option.some.injEq,Prod.mk.injEq]at a;obtain⟨rfl,rfl⟩:=a;obtain⟨c,f,k1,k2,k3⟩:=h.cB b _ g;obtain⟨i1,i2⟩:=GG (β:=β) (H:=H) k2;exact⟨trivial,⟨c,f,k1,i1,i2,k3⟩,cG.2 fun v i=>by obtain⟨e,_,rfl⟩:=iz.1 i;trivial⟩
 case di j k=>
  simp only[Option.some.injEq,Prod.mk.injEq]at a;obtain⟨rfl,rfl⟩:=a;exact⟨trivial,h.cB b _ g,h.refs b _ g⟩
theorem AL{T:dk}{d:em}(n:P.underlying T=some d){key:PV}{o:dl}(hk:ft P T key=true)(g:kn key)(m:aA P w ad key o):∀(ks:List PV)(vs:List AV)(c:List ea)(i:Nat)(r:Option AV),bn P w ad ks (c.map (·.key))->br P w ad β H vs (c.map (·.val))->kZ P T ks vs key=some r->
 (r=none/\gc d o c i=some none)\/∃(v:AV)(j:Nat)(e:ea),r=some v/\gc d o c i=some (some (i+j,e.val))/\au P w ad β H v e.val/\v∈vs
 |[],vs,c,i,r,f,k,h=>by
  cases c with
  |nil=>
   cases vs with
   |nil=>simp[kZ]at h;subst h;exact .inl ⟨rfl,rfl⟩
   |cons a b=>simp[kZ]at h
  |cons a b=>simp[bn]at f
 |u::ks,vs,c,i,r,f,k,h=>by
  cases c with
  |nil=>simp[bn]at f
  |cons e rest=>
   cases vs with
   |nil=>simp[br]at k
   |cons v' vs=>
    simp only[hC,bn,br,List.cons.injEq]at f k;obtain⟨_,_,⟨rfl,rfl⟩,p,q⟩:=f;obtain⟨_,_,⟨rfl,rfl⟩,s,t⟩:=k;simp only[kZ,C0 g]at h
    split at h
    ·rename_i l;simp at h;subst h;obtain⟨g1,g2⟩:=zf n hk g l m p;exact .inr ⟨v',0,e,rfl,by simp[gc,g1],s,List.mem_cons_self⟩
    ·rename_i l;obtain⟨g1,g2⟩:=zf n hk g l m p;rcases AL n hk g m ks vs rest (i+1) r q t h with⟨rfl,f1⟩|⟨v,j,e',rfl,f1,f3,f4⟩
     ·exact .inl ⟨rfl,by simp[gc,g1,f1]⟩
     ·exact .inr ⟨v,j+1,e',rfl,by simp[gc,g1,f1];omega,f3,hF _ f4⟩
    ·simp at h
def qj(ok:Bool)(z:PV):Option AV->AV
 |some v=>if ok then .aE [v,.p (.bool true)]else v
 |none=>.p (if ok then .aE [z,.bool false]else z)
theorem Gp{T:dk}{f E:dk}{x k:dg}{ok:Bool}{key z:PV}{r:Option AV}{b:Nat}{ks:List PV}{vs:List AV}(i:o.op= .lookup T x k ok)(c:jf P T=some (f,E))(D:cH P E=some z)(hi:ρ k= .p key)(hk:ft P f key=true)(n:ni key=true)(B:kZ P f ks vs key=some r)
 (hx:ρ x=.map b):bg P o ρ base {v:=qj ok z r,ak:=[(b,.di ks vs)]}:=by
 refine bg.same fun H w ad ah β G s t ak=>?_;have a:=(t x (by simp[i,g0])).1;have g:=(t k (by simp[i,g0])).1;rw[hi]at g;simp only[au]at g;rw[hx]at a;simp only[au,bK,bO]at a;have l:H[b]?=some (.di ks vs):=by simpa using ak
 obtain⟨y,clock,k1,k2,k3,_⟩:=s.cB b _ l;have hrefs:aR (aG H) vs:=s.refs b _ l;have a:=a.2.1 ⟨_,l,trivial⟩;have q:P.underlying T=some (.map f E):=by
  unfold jf at c
  split at c
  ·rename_i C;simp at c;rw[C,c.1,c.2]
  ·simp at c
 obtain⟨u,F,z2⟩:=LP D;obtain⟨d,h,A⟩:=xM hk (xj n) g;have m:∀e,(gg e 10000 f (G k)).run P w=.ok () w:=fun e=>run_checkKey h A _ 9999;rcases AL h hk (xj n) g ks vs y.toList 0 r k2 k3 B with⟨rfl,f1⟩|⟨v,j,e,rfl,f1,f3,f4⟩
 ·have hf:=run_findKey (w:=w) h f1;refine⟨if ok then .tuple #[u,.bool false]else u,?_,?_,by cases ok<;>simp[qj,aC]⟩
  ·simp only[dp,i];refine er ?_;cases ok<;>simp[gm,db q,a,gy k1,m,hf,F]
  ·cases ok with
   |true=>simp only[qj,if_true,au,aA,bn];exact⟨_,⟨_,_,rfl,z2 w ad,_,_,rfl,rfl,rfl⟩,rfl⟩
   |false=>simpa[qj,au]using z2 w ad
 ·have hf:=run_findKey (w:=w) h f1;refine⟨if ok then .tuple #[e.val,.bool true]else e.val,?_,?_,?_⟩
  ·simp only[dp,i];refine er ?_;cases ok<;>simp[gm,db q,a,gy k1,m,hf]
  ·cases ok with
   |true=>simp only[qj,if_true,au,br,aA];exact⟨_,⟨_,_,rfl,f3,_,_,rfl,rfl,rfl⟩,rfl⟩
   |false=>simpa[qj]using f3
  ·have:=cG.1 hrefs v f4;cases ok<;>simp[qj,aC,aR,this]
theorem GF{w:dq}{ad:Nat->Prop}{k:PV}{x:dl}:∀{a:List PV}{l:List dl},bn P w ad a l->aA P w ad k x->bn P w ad (a++[k]) (l++[x])
 |[],l,h,hx=>by simp only[bn]at h;subst h;simp only[h5,bn];exact⟨_,_,rfl,hx,rfl⟩
 |v::a,l,h,hx=>by
  simp only[bn]at h;obtain⟨y,d,rfl,b,c⟩:=h;simp only[List.cons_append,bn];exact⟨_,_,rfl,b,GF c hx⟩
theorem xc{T i E:dk}{m k x:dg}{b:Nat}{key:PV}{u:Obj}{ks:List PV}{vs:List AV}(c:o.op= .mapUpdate T m k x\/o.op= .insert T m k x)(g:jf P T=some (i,E))(aa:ρ m= .map b)(hk:ρ k= .p key)
 (hf:ft P i key=true)(O:so u=some (ks,vs))(F:ni key=true)(Z:kZ P i ks vs key=some none):bg P o ρ base {v:=.p (.aE []),ak:=[(b,u)],aJ:=[(b,.di (ks++[key]) (vs++[ρ x]))]}:=by
 have ab:P.underlying T=some (.map i E):=by
  unfold jf at g
  split at g
  ·rename_i ae;simp at g;rw[ae,g.1,g.2]
  ·simp at g
 intro H w ad ah β a G B ak _;have s:H[b]?=some u:=by simpa using ak
 have A:m∈o.op.operands/\k∈o.op.operands/\x∈o.op.operands:=by
  rcases c with c|c<;>simp[c,g0]
 have n:=(B m A.1).1;have q:=(B k A.2.1).1;obtain⟨M,N⟩:=B x A.2.2;rw[aa]at n;rw[hk]at q;simp only[au,bK,bO]at n q;obtain⟨r,⟨l,clock,k1,k2,k3,k4⟩,af⟩:=Si G s O;have n:=n.2.1 ⟨_,s,r⟩;have D:¬ad (β.al b)/\¬ah (β.al b):=by
  unfold cw at k4;rw[if_neg (by simp)]at k4;exact k4
 obtain⟨d,z,W⟩:=xM hf (xj F) q;have R:(gg false 10000 i (a k)).run P w=.ok () w:=run_checkKey z W _ 9999;have C:β.al b<w.heap.size:=(b5.1 k1).1;have Q:b<H.length:=(hw.1 s).1;have aB:b9 β H β (H.set b (.di (ks++[key]) (vs++[ρ x]))):=Sk s r trivial;rcases AL z hf (xj F) q ks vs l.toList 0 none k2 k3 Z with⟨_,f1⟩|⟨v',j,e,L,_⟩
 case inr=>cases L
 have V:=run_findKey (w:=w) z f1;have ac:(gj T (a m) (a k) (a x)).run P w=.ok () {w with heap:=w.heap.setIfInBounds (β.al b) (.map (l.push {key:=a k,val:=a x,born:=clock}) (clock+1))}:=by
  rw[n];simp only[gj,hl,db ab,hh,gy k1,R,V,run_setObj_map _ k1]
 have U:(dp a o).run P w=.ok .skip {w with heap:=w.heap.setIfInBounds (β.al b) (.map (l.push {key:=a k,val:=a x,born:=clock}) (clock+1))}:=by
  rcases c with c|c<;>simp[dp,c,ac]
 have I:∀t,ad t->({w with heap:=w.heap.setIfInBounds (β.al b) (.map (l.push {key:=a k,val:=a x,born:=clock}) (clock+1))}:dq).heap[t]?=w.heap[t]?:=by
  intro t Y;have:β.al b≠t:=fun S=>D.1 (S▸Y);simp[this]
 have X:∀y,aG H y->aG (H.set b (.di (ks++[key]) (vs++[ρ x]))) y:=by
  rintro⟨y,v⟩ ⟨ai,ag,f⟩
  by_cases K:b=y
  ·subst K;exact⟨.di (ks++[key]) (vs++[ρ x]),by simp only;rw[hz Q],trivial⟩
  ·exact⟨ai,by simp only;rw[hG K];exact ag,f⟩
 have J:aR (aG H) (vs++[ρ x]):=cG.2 fun v f=>by
  rcases ik.1 f with f|f
  ·exact cG.1 af v f
  ·rw[h2.1 f];exact N
 refine⟨_,_,_,β,ad,U,.inr ⟨rfl,rfl⟩,?_,by simp[au,aA,bn,undef],by simp[aC]⟩;simp only[newAt,hD,bm];refine CQ (o':=.di (ks++[key]) (vs++[ρ x])) G s (by cases u<;>first|trivial|exact r.elim) trivial (fun _ _=>trivial) (fun _ h=>by rw[h]at r;exact r.elim) C D aB ⟨l.push {key:=a k,val:=a x,born:=clock},clock+1,by simp[C],?_,?_,k4⟩ (aR.mono X _ J)
 ·rw[cv,hK];exact bn.mono (fun _ x=>x) I _ _ (GF k2 q)
 ·rw[cv,hK];refine br.mono (fun _ x=>x) I aB _ _ J (oL k3 ?_);simp only[hC,hT,br];exact⟨_,_,rfl,M,rfl⟩
theorem xe{c:dk}{b:Nat}{key:PV}{x:AV}{a:Obj}{K:aS->Prop}(h:oG P c b key x a K):∃ks vs,so a=some (ks,vs)/\ni key=true/\kZ P c ks vs key=some none/\K {v:=.p (.aE []),ak:=[(b,a)],aJ:=[(b,.di (ks++[key]) (vs++[x]))]}:=by
 unfold oG at h
 split at h
 ·rename_i ks vs d;exact⟨ks,vs,d,h⟩
 ·exact h.elim
end
section
variable{P:dz}{w:dq}{ad ah:Nat->Prop}{β:Bd}{H:Heap}
variable{o:Oper}{ρ:dg->AV}{base:Nat}
theorem TA(bs:ByteArray):gq (iO bs)=bs:=by
 unfold gq iO;apply ByteArray.ext;apply cb;simp only[hU];have:(j8∘fun x:UInt8=>x.toNat)=id:=by funext x;simp
 rw[this];simp
theorem WK{T:dk}{x:dg}{s:List Nat}(d:o.op=.range T x)(hx:ρ x=.p (.str s))(e:im P T=true):bg P o ρ base {v:=.ptr base [],aQ:=[.dt s 0]}:=by
 intro H w ad ah β k b j _ f;have c:H[base]?=some .hole:=by simpa using f 0 (by simp)
 have a:=(j x (by simp[d,g0])).1;rw[hx]at a;simp only[au,aA]at a;obtain⟨bs,e1,e2⟩:=a;have i:(dp k o).run P w=.ok (.value (.pointer (some ⟨w.heap.size,0,none⟩))) {w with heap:=w.heap.push (.stringIter bs 0)}:=by
  simp only[dp,d,e1];exact uN (by simp[Instr.range,db (xF e)])
 have g:=sO (cap:=0) b c (ob:=.stringIter bs 0) (o':=.dt s 0)
  ⟨bs,by simp[Bd.at],e2,by
   simp only[cw,Bd.at,if_true,c9,if_false];exact⟨fun h=>i5 _ (b.bQ _ h),fun h=>i5 _ (b.dX _ h)⟩⟩ trivial
 refine⟨_,_,_,_,ad,i,.inl rfl,g,?_,?_⟩
 ·simp only[au,bK,bO,lH];exact⟨rfl,_,_,0,rfl,rfl,fun _=>by simp[Bd.at]⟩
 ·simp only[aC,lH];exact⟨_,hz (hw.1 c).1,trivial⟩
theorem aDp{it:dg}{b:Nat}{s:List Nat}{pos:Nat}(g:o.op= .next it true)(hx:ρ it= .ptr b []):
 (pos<s.length->bg P o ρ base {v:=.p (.aE [.bool true,.int .i64 pos,.int .i32 (ho (gq s) pos).1]),ak:=[(b,.dt s pos)],aJ:=[(b,.dt s (pos+(ho (gq s) pos).2))]})/\
 (¬pos<s.length->bg P o ρ base {v:=.p (.aE [.bool false]),ak:=[(b,.dt s pos)]}):=by
 have key:∀{H:Heap}{w:dq}{ad ah:Nat->Prop}{β:Bd}{e:dg->dl},bP P w ad β H ah->(∀x∈o.op.operands,au P w ad β H (ρ x) (e x)/\aC (aG H) (ρ x))->H[b]?=some (.dt s pos)->
  e it=.pointer (some ⟨β.al b,0,none⟩)/\∃bs:ByteArray,w.heap[β.al b]?=some (.stringIter bs pos)/\s=iO bs/\(¬ad (β.al b)/\¬ah (β.al b)):=by
  intro H w ad ah β e d f a;have c:=(f it (by simp[g,g0])).1;rw[hx]at c;simp only[au,bK,bO]at c;obtain⟨_,al,off,t,m,k,n⟩:=c;simp[fY]at k;subst k;obtain⟨rfl,rfl⟩:=n (.inr ⟨_,_,a⟩);obtain⟨bs,k1,k2,k3⟩:=d.cB b _ a;unfold cw at k3;rw[if_neg (by simp)]at k3;exact⟨m,bs,k1,k2,k3⟩
 constructor
 ·intro i H w ad ah β e d f ak _;have a:H[b]?=some (.dt s pos):=by simpa using ak
  obtain⟨c,bs,k1,rfl,k3⟩:=key d f a;have j:pos<bs.size:=by simpa[iO]using i
  have l:β.al b<w.heap.size:=(b5.1 k1).1;rw[TA];have r:(dp e o).run P w=.ok (.value (.tuple #[.bool true,goInt pos,.int .i32 (ho bs pos).1])) {w with heap:=w.heap.setIfInBounds (β.al b) (.stringIter bs (pos+(ho bs pos).2))}:=by
   simp only[dp,g,c];refine uN ?_;simp[gx,getObj,setObj,hn,k1,hj,j]
  have aB:b9 β H β (H.set b (.dt (iO bs) (pos+(ho bs pos).2))):=oW a (.inr (.inr (.inr ⟨_,_,_,rfl,rfl⟩)));have q:=CQ (o':=.dt (iO bs) (pos+(ho bs pos).2)) (ob:=.stringIter bs (pos+(ho bs pos).2)) d a trivial trivial (fun _ h=>h) (fun _ h=>by cases h) l k3 aB
   ⟨bs,by simp[l],rfl,by unfold cw;rw[if_neg (by simp)];exact k3⟩ trivial
  refine⟨_,_,_,β,ad,r,.inl rfl,?_,?_,by simp[aC]⟩
  ·simpa only[newAt,hD,bm]using q
  ·simp only[au,aA,bn];exact⟨_,⟨_,_,rfl,rfl,_,_,rfl,rfl,_,_,rfl,rfl,rfl⟩,rfl⟩
 ·intro i;refine bg.same fun H w ad ah β e d f ak=>?_;have a:H[b]?=some (.dt s pos):=by simpa using ak
  obtain⟨c,bs,k1,rfl,k3⟩:=key d f a;have j:¬pos<bs.size:=by simpa[iO]using i
  refine⟨.tuple #[.bool false],?_,by simp only[au,aA,bn];exact⟨_,⟨_,_,rfl,rfl,rfl⟩,rfl⟩,by simp[aC]⟩;simp only[dp,g,c];refine er ?_;simp[gx,getObj,hn,k1,hj,j]
theorem WL{T u:dk}{x:dg}{f:Nat}{fs:Array ee}{t g:PV}{F:dk}(h:o.op= .field T x f)(hk:kindOf P T= .agg u)(b:P.underlying T=some (.struct fs))(hx:ρ x= .p t)(hs:aL t= .agg u)(e:(cF t)[f]?=some g)(q:(jm P u)[f]?=some F)(r:kindOf P F=aL g):
 bg P o ρ base {v:=.p g}:=by
 refine bg.same fun H w ad ah β K E z _=>?_;have a:=(z x (by simp[h,g0])).1;rw[hx]at a;simp only[au]at a;cases t<;>simp[aL]at hs;rename_i u' m;subst hs;simp only[cF]at e;simp only[aA]at a;obtain⟨l,d,k1,k2,k3⟩:=a;obtain⟨D,G,s1,s2,I,j,J,A⟩:=uP (P:=P) (T:=T) (u:=u') (n:=fs.size) (by unfold fQ;rw[hk,b]);rw[b]at s1;cases s1;rw[k1]at j;cases j;have s:bJ P w ad ⟨id,id⟩ [] l (m.map .p) d:=nC.2 k2;obtain⟨pre,c,post,e1,e2,e3,e4,e5,_⟩:=s8 (f:=.p g) (i:=f) s (by simp[e]);simp only[bf]at e5;obtain⟨C,g1,g2,g3,g4,g5⟩:=A f (by omega);rw[q]at g5;cases g5;obtain⟨y,k,B⟩:=qQ r e5 (pre:=pre) (post:=post) (cs:=d.flatten.toArray) (by simpa using e1);refine⟨y,?_,by simpa only[au]using B,by simp[aC]⟩;simp only[dp,h,k3];refine er ?_;rw[e2,<-g2]at k;simp only[Instr.field,hl,db b,hh,g1];simp[asAgg,k]
theorem Ud{T u:dk}{n:Nat}{x k:dg}{Q:en}{i:Int}{a:List PV}{g:PV}{F:dk}(j:o.op= .index T x k)(B:gh P T=some (u,n))(hx:ρ x= .p (.st u a))(hi:ρ k= .p (.int Q i))
 (A:0<=i)(K:i.toNat<n)(h:(jm P u)[i.toNat]?=some F)(G:a[i.toNat]?=some g)(I:kindOf P F=aL g):bg P o ρ base {v:=.p g}:=by
 refine bg.same fun H w ad ah β U S t _=>?_;have b:=(t x (by simp[j,g0])).1;have d:=(t k (by simp[j,g0])).1;rw[hx]at b;rw[hi]at d;simp only[au,aA]at b d;obtain⟨l,m,k1,k2,k3⟩:=b;obtain⟨e,s,hk,r,L⟩:=sT B;rw[k1]at r;cases r;have C:F=e:=by
  obtain⟨E,_,_⟩:=Bq hk;have D:(P.info? u).map (fun i:TypeInfo=>i.desc)=some (.array n e):=by rw[E,<-A9,s]
  unfold jm at h;rw[D]at h;have q:(hB n e)[i.toNat]?=some F:=h;rw[List.getElem?_replicate,if_pos K]at q;exact(Option.some.inj q).symm
 subst C;have M:bJ P w ad ⟨id,id⟩ [] (hB n (P.cellsOf F)) (a.map .p) m:=nC.2 k2;obtain⟨pre,c,post,e1,e2,e3,e4,e5,_⟩:=s8 (f:=.p g) (i:=i.toNat) M (by simp[G]);simp only[bf]at e5;obtain⟨y,z,R⟩:=qQ I e5 (pre:=pre) (post:=post) (cs:=m.flatten.toArray) (by simpa using e1);have N:((hB n (P.cellsOf F)).take i.toNat).sum=i.toNat*P.cellsOf F:=by rw[List.take_replicate,Nat.min_eq_left (by omega),List.sum_replicate_nat]
 have O:(sizeOf F).run P w=.ok (P.cellsOf F) w:=by
  cases hi:P.info? F with
  |none=>simp[Program.cellsOf,hi]at L
  |some i=>simp[sizeOf,typeInfo,hi,Program.cellsOf]
 refine⟨y,?_,by simpa only[au]using R,by simp[aC]⟩;simp only[dp,j,k3,d];refine er ?_;have J:i<(n:Int):=by omega
 rw[e2,N]at z;simp only[Instr.index,asIntOf,hl,hm,db s,hh];simp[A,J,O,z]
theorem H3{k:en}{f:Bool}{ρc:dg->dl}:∀(l:List dg)(a n:Int),lQ k f (l.map ρ) a=some n->(∀x∈l,au P w ad β H (ρ x) (ρc x))->
 ((l.map ρc).foldlM (if f then e9 else e8) (.int k a)).run P w=.ok (.int k n) w
 |[],a,n,h,_=>by simp[lQ]at h;subst h;simp
 |x::l,a,n,h,g=>by
  simp only[hC]at h;unfold lQ at h
  split at h
  ·rename_i e;cases e
  ·rename_i j b r a' e;simp at e;obtain⟨e1,rfl⟩:=e
   split at h
   case isFalse=>simp at h
   rename_i hk;subst hk;have d:=g x (by simp);rw[e1]at d;simp only[au,aA]at d;have c:=H3 l _ n h (fun y i=>g y (by simp[i]));simp only[hC,List.foldlM_cons,hl,d];cases f with
   |true=>simp only[if_true,e9,hm,hh]at c⊢;exact c
   |false=>simp only[c9,if_false,e8,hm,hh]at c⊢;exact c
  ·simp at h
theorem Ju{c:Call}{isMax:Bool}{k:en}{a n:Int}{r:List AV}(m:o.op= .call c)(hc:c.callee= .builtin (if isMax then .max else .min))(b:c.args.toList.map ρ= .p (.int k a)::r)(h:lQ k isMax r a=some n):
 bg P o ρ base {v:=.p (.int k n)}:=by
 obtain⟨x,l,i⟩:∃x l,c.args.toList=x::l:=by
  cases s:c.args.toList with
  |nil=>rw[s]at b;simp at b
  |cons x l=>exact⟨x,l,rfl⟩
 rw[i]at b;simp at b;obtain⟨hx,rfl⟩:=b;have g:c.args=(x::l).toArray:=by apply cb;simpa using i
 have j:∀y∈x::l,y∈o.op.operands:=by
  intro y f;rw[m];simp only[g0,gb,hc,g];simpa using f
 refine bg.same fun H w ad ah β t u q _=>⟨.int k n,?_,by simp[au,aA],by simp[aC]⟩
 have d:=(q x (j x (by simp))).1;rw[hx]at d;simp only[au,aA]at d;have e:=H3 (ρc:=t) l a n h (fun y f=>(q y (j y (by simp[f]))).1);simp only[dp,m,resolve,hc,g];cases isMax with
 |true=>
  simp only[if_true]at e⊢;simp[invoke,builtin,fl,d,e]
 |false=>
  simp only[c9,if_false]at e⊢;simp[invoke,builtin,fd,d,e]
theorem aDc{c:Call}{d x:dg}{sz b ar off len:Nat}{k:AK}{f g:List AV}{H0:Heap}(V:o.op= .call c)(hc:c.callee= .builtin .copy)(Q:c.args.toList=[d,x])(av:c.argTypes.size=2)(t:cL P (c.argTypes.getD 0 0)=some sz)
 (ac:ρ d=.sl b ar sz off len)(hx:gL H0 (ρ x)=some g)(aq:fc P sz g)(hk:k≠.frozen)(G:off+len<=f.length)(C:¬cX k f):
 bg P o ρ base {v:=.p (.int .i64 (min g.length len:Nat)),ak:=(b,.arr k ar sz f)::dv H0 (ρ x),aJ:=[(b,.arr k ar sz (f.take off++g.take (min g.length len)++f.drop (off+min g.length len)))]}:=by
 obtain⟨T,X,O⟩:∃T X,c.argTypes=#[T,X]:=by
  obtain⟨l,G⟩:∃l,l=c.argTypes.toList:=⟨_,rfl⟩
  have s:l.length=2:=by rw[G];simpa using av
  match l,s with
  |[a,b],_=>exact⟨a,b,by apply cb;simp[<-G]⟩
 have I:d∈o.op.operands/\x∈o.op.operands:=by
  have ab:c.args=#[d,x]:=by apply cb;simpa using Q
  rw[V];simp[g0,gb,hc,ab]
 have e1:c.argTypes.getD 0 0=T:=by rw[O];rfl
 rw[e1]at t;obtain⟨e,i,t⟩:=j0 t;intro H w ad ah β aa D M ak _;have r:H[b]?=some (.arr k ar sz f):=ak (b,_) (by simp);have j:=(M d I.1).1;rw[ac]at j;simp only[au,bK,bO]at j;obtain⟨_,_,j⟩:=j.2 k f r;have j:=j C;rcases D.cB b _ r with hold|⟨cs,E,aF,rest,k1,k2,k3,k4,k5,k6,k7,k8⟩
 ·exact(C hold).elim
 have S:¬ad (β.al b)/\¬ah (β.al b):=by
  unfold cw at k7;rw[if_neg (by simpa using hk)]at k7;exact k7
 obtain⟨aE,ax,ay,az,aD⟩:=vw (pN hx (fun p am=>ak p (hF _ am))) D (M x I.2).1 (M x I.2).2 aq;obtain⟨n,U⟩:∃n,n=min g.length len:=⟨_,rfl⟩
 rw[<-U];have Z:=aD w rfl n (by omega);obtain⟨y,m,z,g1,g2,g3,g4,g5⟩:=jC ax 0 n (by omega);have aw:y=[]:=by have:=(fK g4).1;simpa using this
 subst aw;have ai:aE.take n=m:=by
  have:=(fK g2).1;rw[g1];simp at this⊢;rw[List.take_left' (by omega)]
 rw[ai]at Z;simp only[h6]at g2;obtain⟨a,N,q,f1,f2,f3,f4,f5⟩:=jC k2 off n (by omega);have J:m.flatten.length=n*sz:=by have:=(fK g2).2;rw[this];congr 1;simp;omega
 have K:N.flatten.length=n*sz:=by have:=(fK f2).2;rw[this];congr 1;simp;omega
 have R:cs.toList=a.flatten++N.flatten++(q.flatten++rest):=by rw[k3,f1];simp
 have Y:cs.size=a.flatten.length+N.flatten.length+(q.flatten++rest).length:=by
  have:=congrArg h4 R;simp only[hA,ce]at this;rw[this,hA]
 have L:=ej P (β.al b) (off*sz) E m.flatten 0 cs w k1 (by rw[Y,f3,J,K];simp only[i7];exact i8 _ _) (vD g2);simp only[i7]at L;have aQ:cs.toList.take (off*sz)++m.flatten++cs.toList.drop (off*sz+m.flatten.length)=a.flatten++m.flatten++(q.flatten++rest):=by
  rw[R,<-f3,J,<-K];exact Ba _ _ _ _
 rw[aQ]at L;have ao:(e7 c.argTypes o.type #[aa d,aa x]).run P w=.ok (goInt n) (w.setRow (β.al b) (a.flatten++m.flatten++(q.flatten++rest)).toArray):=by
  rw[O,j];have aj:Nat.min g.length len=n:=U.symm;have aH:∀(p:Option Addr)(n c:Nat),fm (.slice p n c)=pure n:=fun _ _ _=>rfl;simp[e7,db t.gv,az,aj,t.run,Z,L]
 have B:(f.take off++g.take n++f.drop (off+n)).length=f.length:=by simp;omega
 have aB:b9 β H β (H.set b (.arr k ar sz (f.take off++g.take n++f.drop (off+n)))):=oW r (.inr (.inl ⟨_,_,_,_,_,rfl,rfl,B.symm⟩));have ap:∀A,ad A->(w.setRow (β.al b) (a.flatten++m.flatten++(q.flatten++rest)).toArray).heap[A]?=w.heap[A]?:=fun A ag=>eb w _ A _ (fun F=>S.1 (F▸ag));have hrefs:aR (aG H) (f.take off++g.take n++f.drop (off+n)):=by
  have W:=cG.1 (D.refs b _ r);refine jB (jB ?_ ?_) ?_
  ·rw[cG];exact fun v u=>W v (hH u)
  ·rw[cG];exact fun v u=>cG.1 ay v (hH u)
  ·rw[cG];exact fun v u=>W v (hP u)
 have ae:=lT r (o:=.arr k ar sz (f.take off++g.take n++f.drop (off+n))) (fun _ h=>h);have al:¬cX k (f.take off++g.take n++f.drop (off+n)):=fun h=>C ⟨h.1,by have s:=h.2;rw[<-hR]at s⊢;rw[B]at s;exact s⟩;have an:=qm D r C (o':=.arr k ar sz (f.take off++g.take n++f.drop (off+n))) al (fun _ h=>h) k1 (new:=(a.flatten++m.flatten++(q.flatten++rest)).toArray) S aB
  (.inr ⟨_,E,a++m++q,rest,ec w _ _ _ E _ k1,by
   refine Row.mono (fun _ x=>x) ap aB hrefs (ld.2 ⟨_,_,rfl,ld.2 ⟨_,_,rfl,f4,g2⟩,f5⟩),by simp,by
   rw[<-k4,Y];simp only[hL,hA,J,K],by rw[B];exact k5,fun F=>by rw[B];exact k6 F,k7,(fun af=>(hk af).elim),k8.2⟩) (aR.mono ae _ hrefs)
 refine⟨_,_,_,β,ad,VK V hc Q ao,.inl rfl,?_,by simp[au,aA,goInt],by simp[aC]⟩;simpa only[newAt,hD,bm]using an
end
section
variable{P:dz}{w:dq}{ad ah:Nat->Prop}{β:Bd}{H:Heap}
variable{o:Oper}{ρ:dg->AV}{base:Nat}
theorem yH{c:Call}{x:dg}(e:o.op=.call c){b:Builtin}(hc:c.callee=.builtin b)(d:c.args.toList=[x]):x∈o.op.operands/\c.args=#[x]:=by
 have a:c.args=#[x]:=by apply cb;simpa using d
 refine⟨?_,a⟩;rw[e];simp only[g0,gb,hc,a];simp
theorem xE{T:dk}{a:AV}(h:gS P T a=true)(hs:(∃b v e i l,a=.sl b v e i l)\/a=.p .aN\/∃f c,a=.p (.bL f c)):∃e,P.underlying T=some (.slice e):=by
 rcases hs with⟨b,v,e,i,l,rfl⟩|rfl|⟨f,c,rfl⟩<;>
 ·simp only[gS]at h
  split at h
  ·rename_i e d;exact⟨e,d⟩
  ·simp at h
theorem aDb{c:Call}{x:dg}{n:Nat}{ak:List (Nat×Obj)}{H0:Heap}(y:o.op= .call c)(hc:c.callee= .builtin .cap)(A:c.args.toList=[x])(a:zD H0 (ρ x)=some (n,ak))(m:gS P (c.argTypes.getD 0 0) (ρ x)=true)(F:0<c.argTypes.size):
 bg P o ρ base {v:=.p (.int .i64 n),ak}/\(∀p∈ak,H0[p.1]?=some p.2):=by
 obtain⟨q,B⟩:=yH y hc A;have C:c.argTypes[0]?=some (c.argTypes.getD 0 0):=by simp[cy,F]
 generalize c.argTypes.getD 0 0=T at*
 have j:∀{H:Heap}{w:dq}{ad:Nat->Prop}{β:Bd}{f:dg->dl},(∃p l,f x= .slice p l n)->(∃e,P.underlying T=some (.slice e))->
  ∃s,(dp f o).run P w=.ok (.value s) w/\au P w ad β H (.p (.int .i64 n)) s/\aC (aG H) (.p (.int .i64 n)):=by
  rintro H w ad β f ⟨p,l,hx⟩ ⟨e,G⟩;refine⟨goInt n,?_,by simp[au,aA,goInt],by simp[aC]⟩;simp only[dp,y,resolve,hc,B];simp[invoke,builtin,fv,C,hx,db G]
 unfold zD at a
 split at a
 ·rename_i hx;simp at a;obtain⟨rfl,rfl⟩:=a;refine⟨bg.same fun H w ad ah β f r g ak=>j ?_ (xE m (.inr (.inl hx))),by simp⟩;have d:=(g x q).1;rw[hx]at d;simp only[au,aA]at d;exact⟨_,_,d⟩
 ·rename_i i hx;simp at a;obtain⟨rfl,rfl⟩:=a;refine⟨bg.same fun H w ad ah β f r g ak=>j ?_ (xE m (.inr (.inr ⟨_,_,hx⟩))),by simp⟩;have d:=(g x q).1;rw[hx]at d;simp only[au,aA]at d;obtain⟨_,_,cap,_,_,_,_,_,z,_,_,_,k⟩:=d;exact⟨_,_,by rw[k,z trivial]⟩
 ·rename_i b ar ai off len hx
  split at a
  case h_2=>simp at a
  rename_i L K i E
  split at a
  case isFalse=>simp at a
  rename_i D;obtain⟨rfl,rfl,hle⟩:=D;simp at a;obtain⟨rfl,rfl⟩:=a;refine⟨bg.same fun H w ad ah β f r g ak=>j ?_ (xE m (.inl ⟨_,_,_,_,_,hx⟩)),by simpa using E⟩;have u:H[b]?=some (.arr .exact ar ai i):=by simpa using ak
  have d:=(g x q).1;rw[hx]at d;simp only[au,bK,bO]at d;obtain⟨_,_,k⟩:=d.2 _ _ u;have t:¬cX .exact i:=fun h=>by simp[cX,AK.gr]at h
  rcases r.cB b _ u with hold|⟨cs,I,J,rest,k1,k2,k3,k4,k5,k6,_⟩
  ·exact(t hold).elim
  exact⟨_,_,by rw[k t,k6 rfl]⟩
 ·simp at a
theorem SZ{c:Call}{x:dg}(b:o.op= .call c)(hc:c.callee= .builtin .clear)(f:c.args.toList=[x])(hx:ρ x= .p .aN)(d:gS P (c.argTypes.getD 0 0) (ρ x)=true)(j:0<c.argTypes.size):
 bg P o ρ base {v:=.p (.aE [])}:=by
 obtain⟨i,g⟩:=yH b hc f;have h:c.argTypes[0]?=some (c.argTypes.getD 0 0):=by simp[cy,j]
 generalize c.argTypes.getD 0 0=T at*;obtain⟨e,k⟩:=xE d (.inr (.inl hx));refine bg.same fun H w ad ah β n m l ak=>?_;have a:=(l x i).1;rw[hx]at a;simp only[au,aA]at a;refine⟨.tuple #[],?_,by simp[au,aA,bn],by simp[aC]⟩;simp only[dp,b,resolve,hc,g];simp[invoke,builtin,ew,h,a,db k]
theorem WM{c:Call}{x:dg}{sz b ar off len:Nat}{k:AK}{d:List AV}{z:PV}(M:o.op= .call c)(hc:c.callee= .builtin .clear)(W:c.args.toList=[x])(al:0<c.argTypes.size)(l:cL P (c.argTypes.getD 0 0)=some sz)
 (am:cH P (et P (c.argTypes.getD 0 0))=some z)(aw:bD P (aL z)=sz)(hx:ρ x=.sl b ar sz off len)(hk:k≠.frozen)(ac:off+len<=d.length)(t:¬cX k d)(av:0<len):
 bg P o ρ base {v:=.p (.aE []),ak:=[(b,.arr k ar sz d)],aJ:=[(b,.arr k ar sz (d.take off++hB len (.p z)++d.drop (off+len)))]}:=by
 obtain⟨ae,X⟩:=yH M hc W;have Y:c.argTypes[0]?=some (c.argTypes.getD 0 0):=by simp[cy,al]
 obtain⟨e,i,l⟩:=j0 l;obtain⟨ax,r,U,z2,z3,z4⟩:=oK am;rw[l.pZ]at U;intro H w ad ah β V D ap ak _;have j:H[b]?=some (.arr k ar sz d):=ak (b,_) (by simp);have g:=(ap x ae).1;rw[hx]at g;simp only[au,bK,bO]at g;obtain⟨_,_,g⟩:=g.2 k d j;have g:=g t;rcases D.cB b _ j with hold|⟨cs,u,aq,rest,k1,k2,k3,k4,k5,k6,k7,k8⟩
 ·exact(t hold).elim
 have K:¬ad (β.al b)/\¬ah (β.al b):=by
  unfold cw at k7;rw[if_neg (by simpa using hk)]at k7;exact k7
 have Q:=z3 w ad;have R:r.cells.size=sz:=by have:=(ny Q).1;simp at this;omega
 have ao:r.cells.toList.length=sz:=by simpa using R
 have E:=uQ (β:=β) (H:=H) Q len;rw[ao]at E;obtain⟨m,L⟩:∃m,m=hB len r.cells.toList:=⟨_,rfl⟩
 rw[<-L]at E;have F:Row P w ad β H sz (hB len (.p z)) m:=by
  exact E
 obtain⟨a,I,f,f1,f2,f3,f4,f5⟩:=jC k2 off len ac;have B:m.flatten.length=len*sz:=by have:=(fK F).2;rw[this];simp
 have C:I.flatten.length=len*sz:=by have:=(fK f2).2;rw[this];congr 1;simp;omega
 have J:cs.toList=a.flatten++I.flatten++(f.flatten++rest):=by rw[k3,f1];simp
 have O:cs.size=a.flatten.length+I.flatten.length+(f.flatten++rest).length:=by
  have:=congrArg h4 J;simp only[hA,ce]at this;rw[this,hA]
 have G:=ej P (β.al b) (off*sz) u m.flatten 0 cs w k1 (by rw[O,f3,B,C];simp only[i7];exact i8 _ _) (vD F);simp only[i7]at G;have aQ:cs.toList.take (off*sz)++m.flatten++cs.toList.drop (off*sz+m.flatten.length)=a.flatten++m.flatten++(f.flatten++rest):=by
  rw[J,<-f3,B,<-C];exact Ba _ _ _ _
 rw[aQ]at G;have an:(e6 r.cells len).toList=m.flatten:=by
  have:=xL r.cells len (by rw[R];exact l.pos);rw[L,<-this];rfl
 have ai:(dp V o).run P w=.ok (.value (.tuple #[])) (w.setRow (β.al b) (a.flatten++m.flatten++(f.flatten++rest)).toArray):=by
  obtain⟨S,rfl⟩:∃S,len=S+1:=⟨len-1,by omega⟩
  simp only[dp,M,resolve,hc,X];generalize c.argTypes.getD 0 0=T at*;simp only[hl,hm,hh,invoke,builtin,hQ,hC,hT];have key:(ew c.argTypes o.type #[V x]).run P w=.ok (.tuple #[]) (w.setRow (β.al b) (a.flatten++m.flatten++(f.flatten++rest)).toArray):=by
   simp[ew,Y,g,db l.gv,sM U z2,an,G]
  rw[key];rfl
 have s:(d.take off++hB len (AV.p z)++d.drop (off+len)).length=d.length:=by simp;omega
 have aB:b9 β H β (H.set b (.arr k ar sz (d.take off++hB len (.p z)++d.drop (off+len)))):=oW j (.inr (.inl ⟨_,_,_,_,_,rfl,rfl,s.symm⟩));have aj:∀q,ad q->(w.setRow (β.al b) (a.flatten++m.flatten++(f.flatten++rest)).toArray).heap[q]?=w.heap[q]?:=fun q ab=>eb w _ q _ (fun A=>K.1 (A▸ab));have hrefs:aR (aG H) (d.take off++hB len (AV.p z)++d.drop (off+len)):=by
  have N:=cG.1 (D.refs b _ j);refine jB (jB ?_ ?_) ?_
  ·rw[cG];exact fun v n=>N v (hH n)
  ·rw[cG];intro v n;rw[List.eq_of_mem_replicate n];simp[aC]
  ·rw[cG];exact fun v n=>N v (hP n)
 have Z:=lT j (o:=.arr k ar sz (d.take off++hB len (.p z)++d.drop (off+len))) (fun _ h=>h);have af:¬cX k (d.take off++hB len (AV.p z)++d.drop (off+len)):=fun h=>t ⟨h.1,by have y:=h.2;rw[<-hR]at y⊢;rw[s]at y;exact y⟩;have ag:=qm D j t (o':=.arr k ar sz (d.take off++hB len (AV.p z)++d.drop (off+len))) af (fun _ h=>h) k1 (new:=(a.flatten++m.flatten++(f.flatten++rest)).toArray) K aB
  (.inr ⟨_,u,a++m++f,rest,ec w _ _ _ u _ k1,by
   refine Row.mono (fun _ x=>x) aj aB hrefs (ld.2 ⟨_,_,rfl,ld.2 ⟨_,_,rfl,f4,F⟩,f5⟩),by simp,by
   rw[<-k4,O];simp only[hL,hA,B,C],by rw[s];exact k5,fun A=>by rw[s];exact k6 A,k7,(fun aa=>(hk aa).elim),k8.2⟩) (aR.mono Z _ hrefs)
 refine⟨_,_,_,β,ad,ai,.inl rfl,?_,by simp[au,aA,bn],by simp[aC]⟩;simpa only[newAt,hD,bm]using ag
theorem Bf{c:Call}{x:dg}{v:AV}{ak:List (Nat×Obj)}{H0:Heap}(l:o.op= .call c)(hc:c.callee= .builtin .unsafeSliceData)(n:c.args.toList=[x])
 (h:(ρ x=.p .aN/\v=.p .dC/\ak=[])\/∃b ar ai off len k a,ρ x=.sl b ar ai off len/\H0[b]?=some (.arr k ar ai a)/\ak=[(b,.arr k ar ai a)]/\((cX k a/\v=.p .dC)\/(0<len/\off+len<=a.length/\v=.bV b ar ai off []))):
 bg P o ρ base {v,ak}:=by
 obtain⟨s,q⟩:=yH l hc n;refine bg.same fun H w ad ah β m t y r=>?_;obtain⟨d,i⟩:=y x s;have g:∀f,(fb c.argTypes o.type #[m x]).run P w=.ok f w->(dp m o).run P w=.ok (.value f) w:=by
  intro f u;simp only[dp,l,resolve,hc,q];simp only[hl,hm,hh,invoke,builtin,hQ,hC,hT];rw[u];rfl
 rcases h with⟨hx,rfl,rfl⟩|⟨b,ar,ai,off,len,k,a,hx,D,rfl,h⟩
 ·rw[hx]at d;simp only[au,aA]at d;exact⟨_,g _ (by rw[d];exact Lib.run_unsafeSliceData_nil w _ _ _ _),by simp[au,aA],by simp[aC]⟩
 ·have j:H[b]?=some (.arr k ar ai a):=by simpa using r
  rw[hx]at d i;simp only[au,bK,bO]at d;obtain⟨_,v2,v3⟩:=d.2 k a j;rcases h with⟨e,rfl⟩|⟨E,hle,rfl⟩
  ·exact⟨_,g _ (by rw[v2 e];exact Lib.run_unsafeSliceData_nil w _ _ _ _),by simp[au,aA],by simp[aC]⟩
  ·have e:¬cX k a:=fun h=>by rw[h.2]at hle;simp at hle;omega
   rcases t.cB b _ j with hold|⟨cs,z,A,rest,k1,k2,k3,k4,k5,_⟩
   ·exact(e hold).elim
   refine⟨_,g _ (by rw[v3 e];exact Lib.run_unsafeSliceData_row w _ _ _ _ _ (by omega)),?_,by simpa only[aC]using i⟩;simp only[au,bK,bO];refine⟨by simp[hp],β.al b,off*ai,0,by simp,rfl,fun F B C _=>⟨rfl,by simp⟩⟩
theorem V4(w:dq)(a:Addr)(n:Nat):(w.freeze a n).os=w.os/\(w.freeze a n).output=w.output:=by
 unfold ht
 first|exact⟨rfl,rfl⟩|(split<;>exact⟨rfl,rfl⟩)
theorem VW{w':dq}(j:bP P w ad β H ah){b:Nat}{o:Obj}(i:H[b]?=some o)(v:o.live)(g:¬ad (β.al b)/\¬ah (β.al b))(C:∀L,o≠ .loop L)(D:w'.heap.size=w.heap.size)
 (hs:∀k,k≠β.al b->w'.heap[k]?=w.heap[k]?)(B:w'.os=w.os/\w'.output=w.output:=by exact⟨rfl,rfl⟩):bR P ah ad w β H ad w' β (H.set b .dead):=by
 have n:b<H.length:=(hw.1 i).1;have c:∀(x:Nat)(a:Obj),(H.set b Obj.dead)[x]?=some a->a≠.dead->H[x]?=some a:=by
  intro x a hx q
  by_cases l:b=x
  ·subst l;rw[hz n]at hx;cases hx;exact(q rfl).elim
  ·rwa [hG l]at hx
 have aB:b9 β H β (H.set b .dead):=by
  refine⟨?_,?_,?_,?_,?_⟩
  ·rintro x _ ⟨f,t,h⟩;exact⟨⟨f,t,c _ _ h (by simp)⟩,rfl⟩
  ·rintro x _ ⟨f,t,h⟩;exact⟨⟨f,t,c _ _ h (by simp)⟩,rfl⟩
  ·rintro x _ ⟨E,h,p⟩;exact⟨⟨E,c _ _ h (fun e=>by rw[e]at p;exact p.elim),p⟩,rfl⟩
  ·intro x ar ai k y _ h;exact⟨k,y,c _ _ h (by simp),i4 _,Iff.rfl,fun _=>⟨rfl,rfl⟩⟩
  ·rintro x _ ⟨L,h⟩;exact⟨⟨L,c _ _ h (by simp)⟩,rfl⟩
 have m:bR P ah ad w β H ad w β (H.set b .dead):=
  bR.set j n (fun _ _=>⟨rfl,rfl⟩) (fun _ x=>x) (fun _ x=>.inl x) j.bQ (i4 _) (fun _ _ _=>rfl) (fun h=>h.elim) aB trivial trivial (fun _ _ _ _=>trivial) (fun L s=>by rw[i]at s;cases s;exact(C L rfl).elim)
 have hx:=j.mE i v;have z:=m.rel.Kk hx (fun x a r d u=>by
  have q:a≠.dead:=fun e=>by rw[e]at d;exact d
  have l:x=b:=j.inj x b a o (c _ _ r q) i d v (fun hi=>g.1 (u▸hi)) u;subst l;rw[hz n]at r;cases r;exact d)
 have A:=z.shut (w':=w') (Prot0:=ah) (fun _ h=>.inl h) (R:=fun k=>k=β.al b) (fun x e=>⟨.inr e,e▸g.1⟩) D (fun k hk=>hs k hk);refine⟨fun _ h=>h,fun _ h=>.inl h,⟨by omega,fun k hk=>hs k (fun e=>?_),B⟩,aB,A,m.eQ,m.loop⟩;rcases hk with hk|hk
 ·exact g.2 (e▸hk)
 ·exact g.1 (e▸hk)
theorem BN:∀{d:List AV}{l:List Nat}{b:List (List dl)},bytesOf d=some l->Row P w ad β H 1 d b->b.flatten=l.map (fun c=>hr .u8 (c:Nat))/\l.length=d.length/\∀c∈l,c<256
 |[],l,b,h,a=>by
  simp[bytesOf]at h;subst h;rw[ib]at a;subst a;simp
 |v::d,l,b,h,a=>by
  unfold bytesOf at h
  split at h
  ·rename_i e;cases e
  ·rename_i c r e;simp at e;obtain⟨rfl,rfl⟩:=e
   split at h
   case isFalse=>simp at h
   rename_i hc
   split at h
   case h_2=>simp at h
   rename_i m i;simp at h;subst h;rw[qu]at a;obtain⟨j,cs,rfl,f,k,g⟩:=a;obtain⟨i1,i2,i3⟩:=BN i g;simp only[bf,aP]at f;subst f;refine⟨by simp[i1];omega,by simp[i2],?_⟩;intro x hx;rcases hE.1 hx with rfl|hx
   ·omega
   ·exact i3 x hx
  ·simp at h
theorem Tc{S D e:dk}{x:dg}{b ar off len:Nat}{k:AK}{d:List AV}{l:List Nat}(r:o.op= .convert S D x)(B:P.underlying S=some (.slice e))(y:P.underlying D=some .string)(A:P.underlying e=some (.int .u8))(hx:ρ x= .sl b ar 1 off len)
 (M:0<len)(j:off+len<=d.length)(E:bytesOf ((d.drop off).take len)=some l):bg P o ρ base {v:=.p (.str l),ak:=[(b,.arr k ar 1 d)]}:=by
 refine bg.same fun H w ad ah β N G J ak=>?_;have q:H[b]?=some (.arr k ar 1 d):=by simpa using ak
 have f:=(J x (by simp[r,g0])).1;rw[hx]at f;simp only[au,bK,bO]at f;have n:¬cX k d:=fun h=>by rw[h.2]at j;simp at j;omega
 have f:=(f.2 _ _ q).2.2 n;rcases G.cB b _ q with hold|⟨cs,K,L,rest,k1,k2,k3,k4,k5,k6,k7,k8⟩
 ·exact(n hold).elim
 obtain⟨a,m,z,g1,g2,g3,g4,g5⟩:=jC k2 off len j;obtain⟨s,t,u⟩:=BN E g2;have F:l.length=len:=by rw[t];simp;omega
 have C:cs.toList=a.flatten++(l.map (fun c=>hr .u8 (c:Nat))++(z.flatten++rest)):=by
  rw[k3,g1];simp only[h0,hM,s]
 have I:=run_convert_bytes_arg (P:=P) w S e B A (β.al b) (off*1) len (β.cap b-off) (l.map fun c:Nat=>(c:Int)) (by simpa using F) (fun i hi=>by
  have g:i<l.length:=by omega
  have:cs[off*1+i]?=some (.int .u8 (l[i]:Nat)):=by
   rw[<-cc,C,List.getElem?_append_right (by omega),g3,Nat.add_sub_cancel_left,h7 (by simpa using g),h3,h8 g];rfl
  rw[List.getD_eq_getElem?_getD,h3,h8 g];simp only[hv,k1];simpa using this) D y
 refine⟨.string (strOfNums (l.map fun c:Nat=>(c:Int))),?_,?_,by simp[aC]⟩
 ·simp only[dp,r,f];exact er I
 ·simp only[au,aA];refine⟨_,rfl,?_⟩;rw[strOfNums_data,hU,hU]
  conv=>lhs;rw[<-iL l]
  refine hX fun c hc=>?_;have:=u c hc;simp[j6];omega
theorem SB{c:Call}{x y:dg}{b ar n:Nat}{d:List AV}{l:List Nat}{T X:dk}(F:o.op= .call c)(hc:c.callee= .builtin .unsafeString)(N:c.args.toList=[x,y])(ab:c.argTypes=#[T,X])(hx:ρ x= .bV b ar 1 0 [])(ae:ρ y= .p (.int .i64 n))
 (ai:0<n)(C:n<=d.length)(aj:n<=9223372036854775807)(M:P.underlying T=some (.pointer Gl.u8))(ac:P.cellsOf Gl.u8=1)(W:bytesOf (d.take n)=some l):
 bg P o ρ base {v:=.p (.str l),ak:=[(b,.arr .bytes ar 1 d)],aJ:=[(b,.dead)]}:=by
 have s:c.args=#[x,y]:=by apply cb;simpa using N
 have D:x∈o.op.operands/\y∈o.op.operands:=by
  rw[F];simp[g0,gb,hc,s]
 intro H w ad ah β r G I ak _;have q:H[b]?=some (.arr .bytes ar 1 d):=by simpa using ak
 have e:=(I x D.1).1;have f:=(I y D.2).1;rw[hx]at e;rw[ae]at f;simp only[au,bK,bO,aA]at e f;have i:¬cX .bytes d:=fun h=>by rw[h.2]at C;simp at C;omega
 obtain⟨_,al,off,am,Y,E,e⟩:=e;simp[fY]at E;subst E;obtain⟨rfl,rfl⟩:=e _ _ q i;rcases G.cB b _ q with hold|⟨cs,af,ag,rest,k1,k2,k3,k4,k5,k6,k7,k8⟩
 ·exact(i hold).elim
 obtain rfl:=k8.2 rfl;have U:¬ad (β.al b)/\¬ah (β.al b):=by
  unfold cw at k7;rw[if_neg (by simp)]at k7;exact k7
 obtain⟨a,m,z,g1,g2,g3,g4,g5⟩:=jC k2 0 n (by omega);have O:a=[]:=by have:=(fK g4).1;simpa using this
 subst O;rw[h6]at g2;obtain⟨J,K,L⟩:=BN W g2;obtain⟨bs,u⟩:∃bs:List UInt8,bs=l.map j8:=⟨_,rfl⟩
 have g:bs.length=n:=by rw[u];simp[K];omega
 have t:bs.map (·.toNat)=l:=by
  rw[u,hU]
  conv=>rhs;rw[<-iL l]
  refine hX fun c hc=>?_;have:=L c hc;simp[j6];omega
 have A:cs.toList=bs.map (fun c=>hr .u8 c.toNat)++(z.flatten++rest):=by
  rw[k3,g1];simp only[h5,h0,hM,J];congr 1;rw[<-t,hU];rfl
 have aa:=Lib.run_unsafeString_row (P:=P) w T X o.type Gl.u8 M ac (β.al b) cs.size (by simp[World.shape?,k1]) bs (fun h=>by rw[h]at g;simp at g;omega) (by
  have:=congrArg h4 A;simp only[ce,hA,ip]at this;omega) (by omega) (fun j v B=>by
  have V:j<bs.length:=(hw.1 B).1;rw[kj];have:cs[j]?=some (.int .u8 v.toNat):=by
   rw[<-cc,A,h7 (by simpa using V),h3,B];rfl
  simp[hv,k1,this])
 have Q:(dp r o).run P w=.ok (.value (.string ⟨bs.toArray⟩)) (w.freeze ⟨β.al b,0,none⟩ bs.length):=by
  simp only[dp,F,resolve,hc,s];simp only[hl,hm,hh,invoke,builtin,hQ,hC,hT];have key:(ey c.argTypes o.type #[r x,r y]).run P w=.ok (.string ⟨bs.toArray⟩) (w.freeze ⟨β.al b,0,none⟩ bs.length):=by
   rw[ab,Y,f,<-g];simpa using aa
  rw[key];rfl
 have S:∀k,k≠β.al b->(w.freeze ⟨β.al b,0,none⟩ bs.length).heap[k]?=w.heap[k]?:=by
  intro k hk;unfold ht
  split
  ·rfl
  ·simp[Array.getElem?_modify,Ne.symm hk]
 have R:(w.freeze ⟨β.al b,0,none⟩ bs.length).heap.size=w.heap.size:=by
  unfold ht
  split<;>simp
 have Z:=VW G q i U (fun _ h=>by cases h) R S (V4 _ _ _);refine⟨_,_,_,β,ad,Q,.inl rfl,?_,?_,by simp[aC]⟩
 ·simpa only[newAt,hD,bm]using Z
 ·simp only[au,aA];exact⟨_,rfl,by simpa using t.symm⟩
theorem Sx{c:Call}{x y:dg}{T X:dk}(f:o.op= .call c)(hc:c.callee= .builtin .unsafeString)(i:c.args.toList=[x,y])(j:c.argTypes=#[T,X])(hx:ρ x= .p .dC)(k:ρ y= .p (.int .i64 0)):
 bg P o ρ base {v:=.p (.str [])}:=by
 have d:c.args=#[x,y]:=by apply cb;simpa using i
 have e:x∈o.op.operands/\y∈o.op.operands:=by
  rw[f];simp[g0,gb,hc,d]
 refine bg.same fun H w ad ah β h l g ak=>?_;have a:=(g x e.1).1;have b:=(g y e.2).1;rw[hx]at a;rw[k]at b;simp only[au,aA]at a b;refine⟨.string .empty,?_,by simp only[au,aA];exact⟨_,rfl,rfl⟩,by simp[aC]⟩;simp only[dp,f,resolve,hc,d];simp only[hl,hm,hh,invoke,builtin,hQ,hC,hT];have key:(ey c.argTypes o.type #[h x,h y]).run P w=.ok (.string .empty) w:=by
  rw[j,a,b];exact Lib.run_unsafeString_none w _ _ _ _
 rw[key];rfl
end
section
variable{P:dz}
theorem Dd{c:Call}{ρ:dg->AV}{x:AV}(a:c.args.toList.map ρ=[x]):∃y,c.args.toList=[y]/\ρ y=x:=by
 match b:c.args.toList with
 |[]=>rw[b]at a;simp at a
 |[y]=>rw[b]at a;simp at a;exact⟨y,rfl,a⟩
 |_::_::_=>rw[b]at a;simp at a
theorem Jk{c:Call}(h:c.argTypes.size=2):∃T X,c.argTypes=#[T,X]:=by
 obtain⟨l,d⟩:∃l,l=c.argTypes.toList:=⟨_,rfl⟩
 have e:l.length=2:=by rw[d];simpa using h
 match l,e with
 |[a,b],_=>exact⟨a,b,by apply cb;simp[<-d]⟩
theorem oI(ag:ed->Bool):lJ P ag:=by
 intro o ρ H K _ h;unfold fy at h;have plain:∀{e:aS},K e->bg P o ρ H.length e->e.ak=[]->e.aJ=[]->∃e,K e/\bg P o ρ H.length e/\(∀p∈e.ak,H[p.1]?=some p.2)/\(∀p∈e.aJ,p.1<H.length/\p.2≠.hole):=by
  intro e A B G I;exact⟨e,A,B,by simp[G],by simp[I]⟩
 cases q:o.op<;>simp only[q]at h
 case move x=>exact plain h (Qx (.inl q)) rfl rfl
 case assign x=>exact plain h (Qx (.inr q)) rfl rfl
 case pick c a b=>
  split at h
  ·rename_i t hc;exact plain h (aDs q hc) rfl rfl
  ·exact h.elim
 case alloc T=>
  split at h
  ·rename_i z N;exact plain h.2.2.2 (WO q N h.2.2.1) rfl rfl
  ·exact h.elim
 case box T x=>exact plain h.2.2.2 (aC8 q h.2.1 h.2.2.1) rfl rfl
 case build T parts=>
  split at h
  ·rename_i u z hk N
   split at h
   ·rename_i l C;obtain⟨A,B,G⟩:=h;exact plain G (WN q hk N C A B) rfl rfl
   ·exact h.elim
  ·exact h.elim
 case buildSlice T n parts=>
  split at h
  ·rename_i sz z V N;obtain⟨A,B,G,I⟩:=h;exact plain I (S0 q V N A B G) rfl rfl
  ·exact h.elim
 case load T a=>exact aDo q h
 case store T a x=>exact Xv q h
 case binOp b T x y aG=>
  obtain⟨v,A,B⟩:=aC7 (base:=H.length) q h;exact⟨_,A,B,nj,by simp⟩
 case unOp u T x=>
  split at h
  ·rename_i b hx;exact plain h (ED q hx (.inl ⟨rfl,_,rfl,rfl⟩)) rfl rfl
  ·rename_i k n hx;exact plain h (ED q hx (.inr (.inl ⟨rfl,_,_,rfl,rfl⟩))) rfl rfl
  ·rename_i k n hx;exact plain h (ED q hx (.inr (.inr ⟨rfl,_,_,rfl,rfl⟩))) rfl rfl
  ·exact h.elim
 case convert S D x=>
  split at h
  ·rename_i d k k0 n ab aa hx;exact plain h (Ux q ⟨_,ab⟩ aa hx) rfl rfl
  ·rename_i d s ab aa hx;exact plain h (Uw q ⟨_,ab⟩ aa hx) rfl rfl
  ·rename_i e b ar ai off len ab aa hx
   split at h
   case h_2=>exact h.elim
   rename_i k aj af U w;obtain⟨rfl,rfl,rfl,V,al,hle,h⟩:=h
   split at h
   case h_2=>exact h.elim
   rename_i l C;exact⟨_,h,Tc q ab aa V hx al hle C,by simpa using w,by simp⟩
  ·exact h.elim
 case extract t i=>
  split at h
  ·rename_i vs ap
   split at h
   ·rename_i v aq;exact plain h (Jb q (.inr ⟨_,ap,rfl⟩) (by simp[aq])) rfl rfl
   ·exact h.elim
  ·rename_i vs ap
   split at h
   ·rename_i v aq;exact plain h (Jb q (.inl ap) aq) rfl rfl
   ·exact h.elim
  ·exact h.elim
 case fieldAddr T a f=>
  obtain⟨e,A,B,G,I⟩:=Tb (base:=H.length) q h;exact plain A B G I
 case indexAddr T x i=>
  obtain⟨e,A,B,G,I⟩:=Ta (base:=H.length) q h;exact⟨e,A,B,G,by simp[I]⟩
 case field T x f=>
  split at h
  ·rename_i u fs t hk aA hx;obtain⟨A,h⟩:=h
   split at h
   ·rename_i g F ao am;exact plain h.2 (WL q hk aA hx A ao am h.1) rfl rfl
   ·exact h.elim
  ·exact h.elim
 case index T x i=>
  split at h
  ·rename_i s k n hx hi;obtain⟨A,B,G,I⟩:=h;exact plain I (Uc q hx hi A B G) rfl rfl
  ·rename_i u U k n hx hi
   split at h
   ·rename_i u' m F g J am ao;obtain⟨rfl,al,ac,hk,h⟩:=h;exact plain h (Ud q J hx hi al ac am ao hk) rfl rfl
   ·exact h.elim
  ·exact h.elim
 case makeFunc fn fi ca=>
  cases fn<;>simp only at h
  case func f=>
   obtain⟨m1,m2,m3⟩:=Ub (ρ:=ρ) (base:=H.length) q
   split at h
   ·split at h
    ·rename_i a b ak aJ j an;obtain⟨q1,ad,aF⟩:=m3 H a b ak aJ j an;exact⟨_,h,q1,ad,aF⟩
    ·exact h.elim
   ·split at h
    ·rename_i a b j an;exact plain h (m1 a b j an) rfl rfl
    ·exact plain h m2 rfl rfl
 case makeSlice T l c=>
  split at h
  ·rename_i sz z aH c' V N C hc;obtain⟨A,B,rfl,I,O⟩:=h;exact plain O (S9 q V N C hc A B I) rfl rfl
  ·exact h.elim
 case slice T x lo hi aB=>
  cases aB with
  |none=>
   obtain⟨e,A,B,G,I⟩:=WJ (base:=H.length) q h;exact⟨e,A,B,G,by simp[I]⟩
  |some m=>
   obtain⟨e,A,B,G,I⟩:=Vy (base:=H.length) q h;exact⟨e,A,B,G,by simp[I]⟩
 case makeMap T r=>
  cases r<;>simp only at h;exact plain h (Uv q) rfl rfl
 case lookup T x i ok=>
  split at h
  case h_2=>exact h.elim
  rename_i ae E key J hi
  split at h
  case h_2=>exact h.elim
  rename_i z N;obtain⟨hk,h⟩:=h
  split at h
  ·rename_i hx;exact plain h (uZ (r:=none) (es:=[]) q J N hi hk rfl (.inl ⟨hx,rfl⟩)) rfl rfl
  ·rename_i U hx
   split at h
   ·rename_i v C;exact plain h (uZ (r:=some v) q J N hi hk C (.inr (.inl hx))) rfl rfl
   ·rename_i C;exact plain h (uZ (r:=none) q J N hi hk C (.inr (.inl hx))) rfl rfl
   ·exact h.elim
  ·rename_i b hx
   split at h
   case h_3=>exact h.elim
   ·rename_i fz U w
    split at h
    ·rename_i v C;exact⟨_,h,uZ (r:=some v) q J N hi hk C (.inr (.inr ⟨b,fz,hx,by simp⟩)),by simpa using w,by simp⟩
    ·rename_i C;exact⟨_,h,uZ (r:=none) q J N hi hk C (.inr (.inr ⟨b,fz,hx,by simp⟩)),by simpa using w,by simp⟩
    ·exact h.elim
   ·rename_i ks vs w;obtain⟨Q,h⟩:=h
    split at h
    ·rename_i v C;exact⟨_,h,Gp (r:=some v) q J N hi hk Q C hx,by simpa using w,by simp⟩
    ·rename_i C;exact⟨_,h,Gp (r:=none) q J N hi hk Q C hx,by simpa using w,by simp⟩
    ·exact h.elim
  ·exact h.elim
 case mapUpdate T m k x=>
  split at h
  case h_3=>exact h.elim
  ·rename_i ae E b key v J W hk hx;obtain⟨hf,h⟩:=h
   split at h
   case h_3=>exact h.elim
   ·rename_i U w
    split at h
    case h_2=>exact h.elim
    rename_i r C;exact⟨_,h,HP (.inl q) J W hk hx hf C,by simpa using w,by simpa using(hw.1 w).1⟩
   ·rename_i ks vs w;obtain⟨au,av,j,Q,C,h⟩:=xe h;rw[<-hx]at h;exact⟨_,h,xc (.inl q) J W hk hf j Q C,by simpa using w,by simpa using(hw.1 w).1⟩
  ·rename_i ae E b key J W hk _;obtain⟨hf,h⟩:=h
   split at h
   case h_2=>exact h.elim
   rename_i aE w;obtain⟨au,av,j,Q,C,h⟩:=xe h;exact⟨_,h,xc (.inl q) J W hk hf j Q C,by simpa using w,by simpa using(hw.1 w).1⟩
 case insert T m k x=>
  split at h
  case h_3=>exact h.elim
  ·rename_i ae E b key v J W hk hx;obtain⟨hf,h⟩:=h
   split at h
   case h_3=>exact h.elim
   ·rename_i U w
    split at h
    case h_2=>exact h.elim
    rename_i r C;exact⟨_,h,HP (.inr q) J W hk hx hf C,by simpa using w,by simpa using(hw.1 w).1⟩
   ·rename_i ks vs w;obtain⟨au,av,j,Q,C,h⟩:=xe h;rw[<-hx]at h;exact⟨_,h,xc (.inr q) J W hk hf j Q C,by simpa using w,by simpa using(hw.1 w).1⟩
  ·rename_i ae E b key J W hk _;obtain⟨hf,h⟩:=h
   split at h
   case h_2=>exact h.elim
   rename_i aE w;obtain⟨au,av,j,Q,C,h⟩:=xe h;exact⟨_,h,xc (.inr q) J W hk hf j Q C,by simpa using w,by simpa using(hw.1 w).1⟩
 case range T x=>
  split at h
  ·rename_i s hx;exact plain h.2 (WK q hx h.1) rfl rfl
  ·exact h.elim
 case next it isStr=>
  cases isStr<;>simp only at h
  split at h
  case h_2=>exact h.elim
  rename_i b hx
  split at h
  case h_2=>exact h.elim
  rename_i s pos w;obtain⟨aC,aD⟩:=aDp (P:=P) (base:=H.length) (s:=s) (pos:=pos) q hx
  split at h
  ·rename_i Y;exact⟨_,h,aC Y,by simpa using w,by simpa using(hw.1 w).1⟩
  ·rename_i Y;exact⟨_,h,aD Y,by simpa using w,by simp⟩
 case nilCheck x=>
  split at h
  ·rename_i b p hx;exact plain h (Bc q (.inl ⟨b,p,hx⟩)) rfl rfl
  ·rename_i b v e i p hx;exact plain h (Bc q (.inr (.inl ⟨b,v,e,i,p,hx⟩))) rfl rfl
  ·rename_i t hx;exact plain h (Bc q (.inr (.inr ⟨t,hx⟩))) rfl rfl
  ·exact h.elim
 case call c=>
  split at h
  case h_2=>exact h.elim
  rename_i b hc
  split at h
  ·rename_i x j
   split at h
   case h_2=>exact h.elim
   rename_i n ak C;obtain⟨A,B,G⟩:=h;obtain⟨y,M,rfl⟩:∃y,c.args.toList=[y]/\ρ y=x:=by
    match L:c.args.toList with
    |[]=>rw[L]at j;simp at j
    |[y]=>rw[L]at j;simp at j;exact⟨y,rfl,j⟩
    |_::_::_=>rw[L]at j;simp at j
   obtain⟨q1,ad⟩:=aDn (P:=P) (base:=H.length) q hc M C A B;exact⟨_,G,q1,ad,by simp⟩
  ·rename_i s x j;obtain⟨y,z,M,rfl,rfl⟩:∃y z,c.args.toList=[y,z]/\ρ y=s/\ρ z=x:=by
    match L:c.args.toList with
    |[]=>rw[L]at j;simp at j
    |[y]=>rw[L]at j;simp at j
    |[y,z]=>rw[L]at j;simp at j;exact⟨y,z,rfl,j.1,j.2⟩
    |_::_::_::_=>rw[L]at j;simp at j
   exact VA q hc M h.1 h.2
  ·rename_i k a r j
   split at h
   ·rename_i n ac;exact plain h (Ju (isMax:=false) q hc j ac) rfl rfl
   ·exact h.elim
  ·rename_i k a r j
   split at h
   ·rename_i n ac;exact plain h (Ju (isMax:=true) q hc j ac) rfl rfl
   ·exact h.elim
  ·rename_i d x j;obtain⟨y,z,M,ay,rfl⟩:∃y z,c.args.toList=[y,z]/\ρ y=d/\ρ z=x:=by
    match L:c.args.toList with
    |[]=>rw[L]at j;simp at j
    |[y]=>rw[L]at j;simp at j
    |[y,z]=>rw[L]at j;simp at j;exact⟨y,z,rfl,j.1,j.2⟩
    |_::_::_::_=>rw[L]at j;simp at j
   split at h
   case h_2=>exact h.elim
   rename_i sz b ar ai off len aI V hx;obtain⟨rfl,A,B,h⟩:=h
   split at h
   case h_2=>exact h.elim
   rename_i k aj af U w;obtain⟨rfl,rfl,G,I,O,Z⟩:=h;refine⟨_,Z,aDc q hc M B V ay hx A G I O,?_,by simpa using(hw.1 w).1⟩;intro p Y;rcases hE.1 Y with rfl|Y
   ·exact w
   ·exact nj p Y
  ·rename_i x j;obtain⟨y,M,rfl⟩:=Dd j
   split at h
   case h_2=>exact h.elim
   rename_i n ak C;obtain⟨A,B,G⟩:=h;obtain⟨q1,ad⟩:=aDb (P:=P) (base:=H.length) q hc M C A B;exact⟨_,G,q1,ad,by simp⟩
  ·rename_i x j;obtain⟨y,M,R⟩:=Dd j
   split at h
   ·rw[<-R]at h;exact plain h.2.2 (SZ q hc M R h.1 h.2.1) rfl rfl
   ·split at h
    ·rename_i b ar ai off len sz z k aj af U V N w;obtain⟨rfl,rfl,rfl,A,B,G,I,O,Z,ax⟩:=h;exact⟨_,ax,WM q hc M O V N A R B G I Z,by simpa using w,by simpa using(hw.1 w).1⟩
    ·exact h.elim
   ·exact h.elim
  ·rename_i x j;obtain⟨y,M,R⟩:=Dd j
   split at h
   ·exact plain h (Bf (H0:=H) q hc M (.inl ⟨R,rfl,rfl⟩)) rfl rfl
   ·split at h
    ·rename_i b ar ai off len k aj af U w;obtain⟨rfl,rfl,h⟩:=h;rcases h with⟨A,B,G⟩|⟨A,B,G⟩
     ·exact⟨_,G,Bf q hc M (.inr ⟨_,_,_,_,_,_,_,R,w,rfl,.inl ⟨⟨A,B⟩,rfl⟩⟩),by simpa using w,by simp⟩
     ·exact⟨_,G,Bf q hc M (.inr ⟨_,_,_,_,_,_,_,R,w,rfl,.inr ⟨A,B,rfl⟩⟩),by simpa using w,by simp⟩
    ·exact h.elim
   ·exact h.elim
  ·rename_i x n j;obtain⟨y,z,M,R,aw⟩:∃y z,c.args.toList=[y,z]/\ρ y=x/\ρ z=.p (.int .i64 n):=by
    match L:c.args.toList with
    |[]=>rw[L]at j;simp at j
    |[y]=>rw[L]at j;simp at j
    |[y,z]=>rw[L]at j;simp at j;exact⟨y,z,rfl,j.1,j.2⟩
    |_::_::_::_=>rw[L]at j;simp at j
   split at h
   ·obtain⟨rfl,A,B⟩:=h;obtain⟨T,X,ah⟩:=Jk A;exact plain B (Sx q hc M ah R aw) rfl rfl
   ·split at h
    ·rename_i b ar ai i aj af U w;obtain⟨rfl,rfl,rfl,rfl,A,B,G,I,O,Z,h⟩:=h;obtain⟨T,X,ah⟩:=Jk I
     split at h
     ·rename_i l C;obtain⟨m,rfl⟩:=Int.eq_ofNat_of_zero_le (by omega:0<=n);simp only[Int.toNat_natCast]at B C;have J:P.underlying T=some (.pointer Gl.u8):=by
       rw[ah]at O;simp only[ptrTo]at O
       split at O
       ·rename_i e az;simp at O;rw[<-O];exact az
       ·simp at O
      exact⟨_,h,SB q hc M ah R aw (by omega) B (by omega) J Z C,by simpa using w,by simpa using(hw.1 w).1⟩
     ·exact h.elim
    ·exact h.elim
   ·exact h.elim
  ·exact h.elim
end
section
variable{P:dz}{ag:ed->Bool}{n:Nat}
theorem J8{o o':Obj}(h:l9 o=some o'):l9 o'=some o':=by
 unfold l9 at h
 split at h
 ·simp at h;subst h;rfl
 ·rename_i k ar ai b
  split at h
  ·simp at h
  ·split at h
   ·rename_i l a;simp at h;subst h;simp[l9,AK.gr,a]
   ·simp at h
 ·simp at h;subst h;rfl
 ·simp at h
theorem Zz{w:dq}{ad ah:Nat->Prop}{β:Bd}{H:Heap}(d:bP P w ad β H ah){b:Nat}{o o':Obj}(c:H[b]?=some o)(hf:l9 o=some o'):
 ∃aD,bR P ah ad w β H aD w β (H.set b o')/\aD (β.al b):=by
 unfold l9 at hf
 split at hf
 ·rename_i fz t;simp at hf;subst hf;obtain⟨cs,T,g,i,j,m⟩:=d.cB b _ c;have aB:b9 β H β (H.set b (.box true (.p t))):=sr c (.inl ⟨_,_,_,rfl,rfl⟩);exact sB d c trivial (o':=.box true (.p t)) trivial (fun _ h=>h) (fun _ h=>by cases h) aB j.tF
   (fun aD hi l=>⟨cs,T,g,bf.mono hi (fun _ _=>rfl) aB _ _ (by simp[aC]) i,l,fun _=>trivial,m.2⟩) (by simp[Obj.refs,aC])
 ·rename_i k ar ai f
  split at hf
  ·simp at hf
  ·rename_i q
   split at hf
   case h_2=>simp at hf
   rename_i C z;simp at hf;subst hf;have r:=lR z;rcases d.cB b _ c with hold|⟨cs,T,u,rest,g,i,j,m,x,A,y,B⟩
   ·exact(q hold).elim
   have s:¬cX .frozen f:=fun h=>by cases h.1
   have aB:b9 β H β (H.set b (.arr .frozen ar ai f)):=sr c (.inr (.inl ⟨_,_,_,_,_,rfl,rfl,q,s⟩));exact sB d c q (o':=.arr .frozen ar ai f) s (fun _ h=>h) (fun _ h=>by cases h) aB y.tF
    (fun aD hi l=>.inr ⟨cs,T,u,rest,g,bJ.mono hi (fun _ _=>rfl) aB _ _ _ (d.refs b _ c) i,j,m,x,(fun h=>by cases h),l,fun _ e n=>(by rw[r]at n;simp at n;obtain⟨a,_,rfl⟩:=n;trivial),fun h=>by cases h⟩)
    (by rw[r];exact iZ _ _)
 ·rename_i fz f;simp at hf;subst hf;obtain⟨v,clock,g,i,j⟩:=d.cB b _ c;have aB:b9 β H β (H.set b (.map true f)):=sr c (.inr (.inr ⟨_,_,_,rfl,rfl⟩));exact sB d c trivial (o':=.map true f) trivial (fun _ h=>h) (fun _ h=>by cases h) aB j.tF
   (fun aD hi l=>⟨v,clock,g,cz.mono hi (fun _ _=>rfl) _ _ i,l⟩) trivial
 ·simp at hf
theorem Iy{w:dq}{ah:Nat->Prop}{β:Bd}{H0:Heap}:∀(bs:List Nat){ak aJ:List (Nat×Obj)}{H:Heap}{ad:Nat->Prop},lj H0 bs=some (ak,aJ)->bP P w ad β H ah->
 (∀p∈ak,∃c,H[p.1]?=some c/\l9 c=l9 p.2)->∃aD,bR P ah ad w β H aD w β (bm H aJ)/\∀b∈bs,aD (β.al b)
 |[],ak,aJ,H,ad,h,a,_=>by
  simp[lj]at h;obtain⟨rfl,rfl⟩:=h;exact⟨ad,bR.refl a,by simp⟩
 |b::bs,ak,aJ,H,ad,h,a,hc=>by
  simp only[lj]at h
  split at h
  case h_2=>simp at h
  rename_i o q s r g
  split at h
  case h_2=>simp at h
  rename_i o' hf;simp at h;obtain⟨rfl,rfl⟩:=h;obtain⟨c,g1,g2⟩:=hc (b,o) (by simp);simp only at g1 g2;rw[hf]at g2;obtain⟨n,e,l⟩:=Zz a g1 g2;have i:b<H.length:=(hw.1 g1).1;obtain⟨f,q1,m⟩:=Iy bs g e.rel (by
   intro p j;obtain⟨k,k1,k2⟩:=hc p (by simp[j])
   by_cases d:b=p.1
   ·rw[<-d]at k1⊢;rw[g1]at k1;cases k1;refine⟨o',by rw[hz i],?_⟩;rw[<-k2,g2,J8 g2]
   ·exact⟨k,by rw[hG d];exact k1,k2⟩)
  refine⟨f,by simpa only[bm]using e.trans q1,?_⟩;intro x hx;rcases hE.1 hx with rfl|hx
  ·exact q1.bQ _ l
  ·exact m x hx
theorem J9{H0:Heap}:∀(bs:List Nat){ak aJ:List (Nat×Obj)},lj H0 bs=some (ak,aJ)->(∀p∈ak,H0[p.1]?=some p.2)/\(∀p∈aJ,p.1<H0.length/\p.2≠.hole)/\ak.map (·.1)=bs
 |[],ak,aJ,h=>by
  simp[lj]at h;obtain⟨rfl,rfl⟩:=h;simp
 |b::bs,ak,aJ,h=>by
  simp only[lj]at h
  split at h
  case h_2=>simp at h
  rename_i o f g d e
  split at h
  case h_2=>simp at h
  rename_i o' hf;simp at h;obtain⟨rfl,rfl⟩:=h;obtain⟨i1,i2,i3⟩:=J9 bs e;refine⟨?_,?_,by simp[i3]⟩
  ·intro p a;rcases hE.1 a with rfl|a
   ·exact d
   ·exact i1 p a
  ·intro p a;rcases hE.1 a with rfl|a
   ·refine⟨(hw.1 d).1,fun c=>?_⟩;simp only at c;have:=J8 hf;rw[c]at this;simp[l9]at this
   ·exact i2 p a
theorem Xk{w:dq}{ad aD ah:Nat->Prop}{β:Bd}{H0 H:Heap}{a:AV}{pv:PV}{bs:List Nat}{v:dl}(d:mh H0 a=some (pv,bs))(ak:∀b∈bs,H[b]?=H0[b]?)(n:bP P w ad β H ah)(e:au P w ad β H a v)
 (hi:∀k,ad k->aD k)(r:∀b∈bs,aD (β.al b)):aA P w aD pv v:=by
 cases a with
 |p t=>
  simp[mh]at d;obtain⟨rfl,rfl⟩:=d;simp only[au]at e;exact aA.mono hi (fun _ _=>rfl) _ _ e
 |sl b ar ai off len=>
  simp only[mh]at d
  split at d
  case h_2=>simp at d
  rename_i k S M g l
  split at d
  case isFalse=>simp at d
  rename_i F;obtain⟨rfl,rfl,R⟩:=F
  split at d
  ·simp at d
  ·rename_i y
   split at d
   case h_2=>simp at d
   rename_i z I;simp at d;obtain⟨rfl,rfl⟩:=d;have x:=lR I;have f:H[b]?=some (.arr k ar ai g):=by rw[ak b (by simp)];exact l
   have j:=r b (by simp);simp only[au,bK,bO]at e;obtain⟨v1,v2,v3⟩:=e.2 k g f;rcases n.cB b _ f with hold|⟨cs,T,A,rest,i,h,q,D,N,E,O,Q⟩
   ·exact(y hold).elim
   rw[v3 y];have J:Row P w aD β H ai g A:=bJ.mono hi (fun _ _=>rfl) (b9.refl _ _) _ _ _ (n.refs b _ f) h;obtain⟨a,m,c,e1,e2,e3,e4,e5⟩:=jC J off len v1;rw[x,A8,lS]at e2;have u:((z.drop off).take len).length=len:=by
    have:g.length=z.length:=by rw[x];simp
    simp;omega
   simp only[aA];refine⟨β.al b,off*ai,β.cap b-off,ai,m,e2,fun _=>j,?_,?_,?_,none,.inl rfl,?_⟩
   ·rw[<-e3];exact lM i (post:=c.flatten++rest) (by rw[q,e1];simp)
   ·intro hf;simp at hf;rw[u,E hf.1];omega
   ·rw[u];omega
   ·rw[u]
 |ptr b path=>
  simp only[mh]at d
  split at d
  case h_2=>simp at d
  rename_i fz t l
  split at d
  case h_2=>simp at d
  rename_i s hs;simp at d;obtain⟨rfl,rfl⟩:=d;have f:H[b]?=some (.box fz (.p t)):=by rw[ak b (by simp)];exact l
  have j:=r b (by simp);simp only[au,bK,bO]at e;obtain⟨_,L,K,o,rfl,G,e⟩:=e;obtain⟨rfl,rfl⟩:=e (.inl ⟨fz,_,f⟩);obtain⟨cs,T,i,h,q,D⟩:=n.cB b _ f;have C:aP P w aD t cs.toList:=by simp only[bf]at h;exact aP.mono hi (fun _ _=>rfl) _ _ h
  obtain⟨pre,xs,post,e1,e2,e3⟩:=yr C hs G;simp only[aA];refine⟨β.al b,K,xs,e3,j,?_,rfl⟩;rw[<-e2];exact lM i e1
 |map b=>
  simp only[mh]at d
  split at d
  case h_2=>simp at d
  rename_i fz g l;simp at d;obtain⟨rfl,rfl⟩:=d;have f:H[b]?=some (.map fz g):=by rw[ak b (by simp)];exact l
  have j:=r b (by simp);simp only[au,bK,bO]at e;have e:=e.2.1 ⟨_,f,trivial⟩;obtain⟨B,clock,i,h,q⟩:=n.cB b _ f;simp only[aA];exact⟨β.al b,B,clock,j,i,cz.mono hi (fun _ _=>rfl) _ _ h,e⟩
 |bV=>simp[mh]at d
 |func=>simp[mh]at d
 |st=>simp[mh]at d
 |aE=>simp[mh]at d
theorem JQ{w:dq}{ad aD ah:Nat->Prop}{β:Bd}{H0 H:Heap}:∀{l:List AV}{vs:List PV}{bs:List Nat}{d:List dl},nU H0 l=some (vs,bs)->(∀b∈bs,H[b]?=H0[b]?)->bP P w ad β H ah->br P w ad β H l d->
 (∀k,ad k->aD k)->(∀b∈bs,aD (β.al b))->bn P w aD vs d
 |[],vs,bs,d,h,_,_,c,_,_=>by
  simp[nU]at h;obtain⟨rfl,rfl⟩:=h;simp only[br]at c;simpa[bn]using c
 |a::l,vs,bs,d,h,ak,f,c,hi,e=>by
  simp only[nU]at h
  split at h
  case h_2=>simp at h
  rename_i v m o n g i;simp at h;obtain⟨rfl,rfl⟩:=h;simp only[br]at c;obtain⟨y,j,rfl,k1,k2⟩:=c;simp only[bn];exact⟨y,j,rfl,Xk g (fun b hx=>ak b (by simp[hx])) f k1 hi (fun b hx=>e b (by simp[hx])),JQ i (fun b hx=>ak b (by simp[hx])) f k2 hi (fun b hx=>e b (by simp[hx]))⟩
def Act(P:dz)(n:Nat)(o:Oper)(s:St)(e:aS):Prop:=
 ∀(fr:eo)(k:List Item)(cs:List eo)(a:Array Oper)(i:Nat)(r:List Nat)(b:List Deferred)(ah ad:Nat->Prop)(β:Bd)(s':St)(t:Array dl)(w:dq),
  a[i]?=some o->he o (yielded a t)=true->iT n o=true->cK P n ah ad β s' t w->(∀x∈o.op.operands,ev s'.env x=ev s.env x)->
  (∀p∈e.ak,s'.heap[p.1]?=some p.2)->(∀j,j<e.aQ.length->s'.heap[s.heap.length+j]?=some .hole)->
  ∃aD aH c w',Steps P (lone (bw fr t b (.inRegion a (i::r)::k)) cs w) (lone (bw fr c b (.inRegion a r::k)) cs w')/\
   cK P n ah aD aH ⟨put o.dst e.v s'.env,bm s'.heap (e.aJ++newAt s.heap.length e.aQ)⟩ c w'/\∀N,dJ N ah ad w β s'.heap ah aD w' aH (bm s'.heap (e.aJ++newAt s.heap.length e.aQ))
theorem TJ{o:Oper}{K:aS->Prop}{s:St}(h:jh P ag o s K)(c:Call):o.op≠.defer c:=by
 intro hc;unfold jh at h;rw[hc]at h;simp[fy,hc]at h
theorem NT{e e':Env}{l:List dg}(h:∀x∈l,ev e' x=ev e x):l.map (ev e')=l.map (ev e):=hX h
theorem K9{o:Oper}{f:dg}{H:Array dg}{aj:Array dk}{g:ed}{fi ca:List AV}{K:aS->Prop}{s:St}
 (W:o.op=.call {callee:=.value f,args:=H,argTypes:=aj})
 (hf:(ev s.env f=.func g fi ca)\/(∃a b,ev s.env f=.p (.func g a b)/\fi=a.map .p/\ca=b.map .p))
 (h:gV P g (fi++H.toList.map (ev s.env)++ca) s.heap K):
 ∃e,K e/\(∀p∈e.ak,s.heap[p.1]?=some p.2)/\(∀p∈e.aJ,p.1<s.heap.length/\p.2≠.hole)/\Act P n o s e:=by
 have Q:∀c,o.op≠.defer c:=fun c hc=>by rw[W]at hc;cases hc
 have ab:f∈o.op.operands/\∀x∈H.toList,x∈o.op.operands:=by
  rw[W];simp[g0,gb];exact fun x hx=>.inr hx
 have M:∀{ah ad:Nat->Prop}{β:Bd}{s':St}{t:Array dl}{w:dq},cK P n ah ad β s' t w->(∀x∈o.op.operands,ev s'.env x=ev s.env x)->
  ∃m:List dl,br P w ad β s'.heap (fi++H.toList.map (ev s.env)++ca) m/\aR (aG s'.heap) (fi++H.toList.map (ev s.env)++ca)/\(dp (fA t) o).run P w=(callFunc g m.toArray).run P w:=by
  intro ah ad β s' t w d A;have I:=nO d f;rw[A f ab.1]at I;obtain⟨G,F,av,ar,ap,aE,az⟩:∃G F:List dl,fA t f=.func (.func g) G.toArray F.toArray/\br P w ad β s'.heap fi G/\br P w ad β s'.heap ca F/\aR (aG s'.heap) fi/\aR (aG s'.heap) ca:=by
   rcases hf with hf|⟨a,b,hf,rfl,rfl⟩
   ·rw[hf]at I;simp only[au,aC]at I;obtain⟨⟨G,F,y,z,D⟩,S,an⟩:=I;exact⟨G,F,D,y,z,S,an⟩
   ·rw[hf]at I;simp only[au,aA]at I;obtain⟨⟨G,F,y,z,D⟩,_⟩:=I;exact⟨G,F,D,jq.2 y,jq.2 z,iZ _ _,iZ _ _⟩
  obtain⟨Y,Z⟩:=u6 d H.toList;rw[NT (fun x hx=>A x (ab.2 x hx))]at Y Z;refine⟨G++H.toList.map (fA t)++F,oL (oL ar Y) ap,jB (jB aE Z) az,?_⟩;simp only[dp,W,resolve,av,Deferred.ofValue,hl,hm,hh,invoke];congr 2;simp
 have pure:∀(fr:eo)(k:List Item)(cs:List eo)(l:Array Oper)(i:Nat)(r:List Nat)(u:List Deferred)(ah ad E:Nat->Prop)(β:Bd)(s':St)(t:Array dl)(w:dq)(H1:Heap)(m:List dl)(vs:List PV)(v:PV),
  l[i]?=some o->he o (yielded l t)=true->iT n o=true->cK P n ah ad β s' t w->(dp (fA t) o).run P w=(callFunc g m.toArray).run P w->
  bR P ah ad w β s'.heap E w β H1->bn P w E vs m->aw P g vs v->
  ∃aD aH ai w',Steps P (lone (bw fr t u (.inRegion l (i::r)::k)) cs w) (lone (bw fr ai u (.inRegion l r::k)) cs w')/\
   cK P n ah aD aH ⟨put o.dst (.p v) s'.env,H1⟩ ai w'/\∀N,dJ N ah ad w β s'.heap ah aD w' aH H1:=by
  intro fr k cs l i r u ah ad E β s' t w H1 m vs v q C B d O j af L;rcases L with⟨aq,L⟩|L
  ·rw[aq]at O;obtain⟨e,w',al,⟨R,aD,U,g1,g2,g3,g4,g5,am,g6⟩,aB,ax,V⟩:=L w E _ j.rel.bQ j.rel.ig af (bw fr t u (.inRegion l (i::r)::k)::cs);subst U;have ae:=j.trans (j.rel.later g1 g2 g3 g4 g5 am);refine⟨aD,β,_,w',?_,d.put B ae (by simpa[au]using g6) (by simp[aC]),fun _=>ae.fe⟩;rw[<-nq q];exact(Steps.one (uU q C Q O)).trans (Steps.trans aB (.one (ei V)))
  ·obtain⟨R,y,z⟩:=L w E _ af;rw[y]at O;exact⟨E,β,_,w,.one (sy q C Q O (.inl rfl)),d.put B j (by simpa[au]using z) (by simp[aC]),fun _=>j.fe⟩
 rcases h with⟨vs,v,y,z,D⟩|⟨vs,bs,ak,aJ,v,y,z,D,S⟩|⟨e,X,ac,T⟩|⟨ak,v,ao,ay,T⟩
 ·refine⟨_,D,by simp,by simp,?_⟩;intro fr k cs l i r u ah ad β s' t w q C B d A _ _;obtain⟨m,c1,c2,c3⟩:=M d A;rw[y]at c1;simp only[newAt,hD,bm];exact pure fr k cs l i r u ah ad ad β s' t w s'.heap m vs v q C B d c3 (bR.refl d.heap) (jq.1 c1) z
 ·obtain⟨i1,i2,i3⟩:=J9 bs z;refine⟨_,S,i1,i2,?_⟩;intro fr k cs l i r u ah ad β s' t w q C B d A J _;obtain⟨m,c1,c2,c3⟩:=M d A;obtain⟨E,ag,aF⟩:=Iy bs z d.heap (fun p j=>⟨p.2,J p j,rfl⟩);simp only[newAt,hD];refine pure fr k cs l i r u ah ad E β s' t w _ m vs v q C B d c3 ag (JQ y ?_ d.heap c1 ag.bQ aF) D;intro b aa;rw[<-i3]at aa;obtain⟨p,j,rfl⟩:=iz.1 aa;rw[J p j,i1 p j]
 ·refine⟨_,T,ac.1,ac.2,?_⟩;intro fr k cs l i r u ah ad β s' t w q C B d A J aQ;obtain⟨m,c1,c2,c3⟩:=M d A;rw[X.1]at c3;obtain⟨x,w',al,⟨R,aH,aD,U,g1,g2,g3⟩,aB,ax,V⟩:=X.2 s'.heap w ad ah β _ d.heap c1 c2 J aQ (bw fr t u (.inRegion l (i::r)::k)::cs);subst U;refine⟨aD,aH,_,w',?_,d.put B g1 g2 g3,fun _=>g1.fe⟩;rw[<-nq q];exact(Steps.one (uU q C Q c3)).trans (Steps.trans aB (.one (ei V)))
 ·refine⟨_,T,ay,by simp,?_⟩;intro fr k cs l i r u ah ad β s' t w q C B d A J aQ;obtain⟨m,c1,c2,c3⟩:=M d A;obtain⟨R,y,D⟩:=ao s'.heap w ad ah β _ d.heap c1 c2 J;rw[y]at c3;have j:=bR.refl d.heap;simp only[newAt,hD,bm];exact⟨ad,β,_,w,.one (sy q C Q c3 (.inl rfl)),d.put B j (by simpa[au]using D) (by simp[aC]),fun _=>j.fe⟩
theorem Vj{o:Oper}{f:dg}{a:Array dg}{y:Array dk}{b:Nat}{e:aS}{s:St}
 (j:o.op=.call {callee:=.value f,args:=a,argTypes:=y})(hf:ev s.env f=.map b)(hY:tA P b (a.toList.map (ev s.env)) s.heap.length e):Act P n o s e:=by
 have G:∀c,o.op≠.defer c:=fun c hc=>by rw[j]at hc;cases hc
 have u:f∈o.op.operands/\∀x∈a.toList,x∈o.op.operands:=by
  rw[j];simp[g0,gb];exact fun x hx=>.inr hx
 intro fr k cs I i r z ah ad β s' t w v H C d m E aQ;have h:=(nO d f).1;rw[m f u.1,hf]at h;simp only[au,bK,bO]at h;obtain⟨l,p⟩:=u6 d a.toList;rw[NT (fun x hx=>m x (u.2 x hx))]at l p;obtain⟨F,g,tmps,assign,body,A,B⟩:=hY s'.heap w ad ah β _ d.heap l p E aQ;have D:=h.2.2 F;have q:(dp (fA t) o).run P w=(Instr.yield (β.al b) (a.toList.map (fA t)).toArray).run P w:=by
  simp only[dp,j,resolve,D,Deferred.ofValue,hl,hm,hh,invoke];congr 2;exact cb (by simp)
 rw[A]at q;obtain⟨J,w',aH,aD,g1,g2,g3,g4⟩:=B (bw fr t z (.inRegion I (i::r)::k)) cs;refine⟨aD,aH,_,w',?_,d.put C g2 g3 g4,fun _=>g2.fe⟩;rw[<-nq v];exact(Steps.one (I4 v H G q)).trans g1
theorem Wd(m:lJ P ag){o:Oper}{K:aS->Prop}{s:St}(h:jh P ag o s K):
 ∃e,K e/\(∀p∈e.ak,s.heap[p.1]?=some p.2)/\(∀p∈e.aJ,p.1<s.heap.length/\p.2≠.hole)/\Act P n o s e:=by
 have E:=TJ h;have q:fy P ag o (ev s.env) s.heap K->∃e,K e/\(∀p∈e.ak,s.heap[p.1]?=some p.2)/\(∀p∈e.aJ,p.1<s.heap.length/\p.2≠.hole)/\Act P n o s e:=by
  intro h;obtain⟨e,a,hs,ak,aJ⟩:=m o _ _ _ (fun v=>rfl) h;refine⟨e,a,ak,aJ,?_⟩;intro fr k cs L i r J ah ad β s' t w F G C d B D aQ;obtain⟨nx,I,w',aH,aD,u,y,j,z,A⟩:=hs s'.heap w ad ah β (fA t) d.heap (fun x hx=>by rw[<-B x hx];exact nO d x) D aQ;exact⟨aD,aH,_,w',.one (sy F G E u y),d.put C j z A,fun _=>j.fe⟩
 unfold jh at h
 split at h
 ·rename_i f args H c
  split at h
  ·rename_i g fi ca hf;exact K9 c (.inr ⟨fi,ca,hf,rfl,rfl⟩) h
  ·rename_i g fi ca hf;exact K9 c (.inl hf) h
  ·rename_i b hf;obtain⟨e,hY,l,a⟩:=h;exact⟨e,a,l.1,l.2,Vj c hf hY⟩
  ·exact h.elim
 ·exact q h
end
section
variable{P:dz}{ag:ed->Bool}{n:Nat}
def looks(a:Array Oper)(o:Oper):List Tmp:=
 (o.op.operands.toList.filterMap fun x=>match x with
  | .tmp t=>some t
  |_=>none)++(match o.guard with
  |some (j,_)=>(match(a[j]?).bind (·.dst)with
   |some d=>[d]
   |none=>[])
  |none=>[])
def qx(c:Array Oper)(a b:Oper):Bool:=
 (match a.dst with
  |some d=>(looks c b).contains d||b.dst==some d
  |none=>false)||
 (match b.dst with
  |some d=>(looks c a).contains d
  |none=>false)
def fit(_:Nat)(a:Array Oper):Bool:=
 (i0 a.size).all fun j=>match a[j]? with
  |some o=>o.after.toList.all (fun e=>!hg .any e||decide (e.on<j))&&
   (i0 j).all (fun i=>match a[i]? with
    |some u=>!qx a u o||reach a a.size i j
    |none=>true)
  |none=>true
structure Dt(P:dz)(n:Nat)(ops:Array Oper)(o:Oper)(s:St)(e:aS):Prop where
 ak:∀p∈e.ak,s.heap[p.1]?=some p.2
 aJ:∀p∈e.aJ,p.1<s.heap.length
 act:(∀(t:Array dl)(s':St)(ah ad:Nat->Prop)(β:Bd)(w:dq),cK P n ah ad β s' t w->(∀x∈looks ops o,aM s'.env x=aM s.env x)->he o (yielded ops t)=true)/\Act P n o s e\/
  (∀(t:Array dl)(s':St)(ah ad:Nat->Prop)(β:Bd)(w:dq),cK P n ah ad β s' t w->(∀x∈looks ops o,aM s'.env x=aM s.env x)->he o (yielded ops t)=false)/\e={v:=.p (.aE [])}
inductive Tr(P:dz)(n:Nat)(ops:Array Oper):List Oper->Nat->St->List (St×aS)->St->Prop
 |nil (i:Nat) (s:St):Tr P n ops [] i s [] s
 |cons {o:Oper} {r:List Oper} {i:Nat} {s s':St} {e:aS} {es:List (St×aS)}:Dt P n ops o s e->Tr P n ops r (i+1) (e.app o.dst s) es s'->Tr P n ops (o::r) i s ((s,e)::es) s'
def o9(i:Nat):List (St×aS)->List Touch->List Touch
 |[],acc=>acc
 |(s,e)::r,acc=>o9 (i+1) r (gQ i s.heap.length e acc)
theorem A7{a:Array Oper}{o:Oper}{j:Nat}{f:Bool}(c:o.guard=some (j,f)){e e':Env}(h:∀x∈looks a o,aM e' x=aM e x):guardOf a j e'=guardOf a j e:=by
 unfold guardOf;cases b:(a[j]?).bind (·.dst)with
 |none=>rfl
 |some d=>
  simp only;exact h d (by simp[looks,c,b])
theorem Kw(B:lJ P ag){a:Array Oper}(q:∀o∈a.toList,iT n o=true):∀(l:List Oper)(i:Nat)(d:List Touch)(s:St){K:St->Prop},(∀o∈l,o∈a.toList)->ga P ag a l i d K s->
 ∃c s',Tr P n a l i s c s'/\K s'/\ke a (o9 i c d)=true
 |[],i,d,s,K,_,h=>⟨[],s,.nil i s,h.2,h.1⟩
 |o::l,i,d,s,K,F,h=>by
  have C:=fun d s(h:ga P ag a l (i+1) d K s)=>Kw B q l (i+1) d s (fun o G=>F o (by simp[G])) h
  have skip:ga P ag a l (i+1) d K ⟨put o.dst (.p (.aE [])) s.env,s.heap⟩->(∀(t:Array dl)(s':St)(ah ad:Nat->Prop)(β:Bd)(w:dq),cK P n ah ad β s' t w->(∀x∈looks a o,aM s'.env x=aM s.env x)->he o (yielded a t)=false)->
   ∃c s',Tr P n a (o::l) i s c s'/\K s'/\ke a (o9 i c d)=true:=by
   intro hk A;obtain⟨c,s',r,u,y⟩:=C _ _ hk;refine⟨(s,{v:=.p (.aE [])})::c,s',.cons ⟨by simp,by simp,.inr ⟨A,rfl⟩⟩ ?_,u,by simpa[o9,gQ]using y⟩;simpa[aS.app,bm]using r
  have go:jh P ag o s (fun e=>ga P ag a l (i+1) (gQ i s.heap.length e d) K (e.app o.dst s))->(∀(t:Array dl)(s':St)(ah ad:Nat->Prop)(β:Bd)(w:dq),cK P n ah ad β s' t w->(∀x∈looks a o,aM s'.env x=aM s.env x)->he o (yielded a t)=true)->
   ∃c s',Tr P n a (o::l) i s c s'/\K s'/\ke a (o9 i c d)=true:=by
   intro hk A;obtain⟨e,D,ak,aJ,E⟩:=Wd (n:=n) B hk;obtain⟨c,s',r,u,y⟩:=C _ _ D;exact⟨(s,e)::c,s',.cons ⟨ak,fun p H=>(aJ p H).1,.inl ⟨A,E⟩⟩ r,u,by simpa[o9]using y⟩
  simp only[ga]at h
  split at h
  ·rename_i f;exact go h (fun _ _ _ _ _ _ _ _=>by simp[he,f])
  ·rename_i j I f
   split at h
   ·rename_i b m
    split at h
    ·rename_i z;refine go h (fun t s' ah ad β w k g=>?_);obtain⟨g1,g2⟩:=xN k q j;rw[A7 f g]at g1;simp[he,f,g1 _ m,z]
    ·rename_i z;refine skip h (fun t s' ah ad β w k g=>?_);obtain⟨g1,g2⟩:=xN k q j;rw[A7 f g]at g1;simp[he,f,g1 _ m,z]
   ·rename_i m;refine skip h (fun t s' ah ad β w k g=>?_);obtain⟨g1,g2⟩:=xN k q j;rw[A7 f g]at g2;simp[he,f,g2 m]
   ·exact h.elim
def vU(a:Array Oper)(D:Nat->Prop):Prop:=∀j o,a[j]?=some o->D j->∀e∈o.after,hg .any e=true->D e.on
theorem Bk{c:Array Oper}{D:Nat->Prop}(hc:vU c D):∀(f i j:Nat),reach c f i j=true->(∀o,c[j]?=some o->∀e∈o.after,hg .any e=true->D e.on)->D i
 |0,_,_,h,_=>by simp[reach]at h
 |f+1,i,j,h,d=>by
  simp only[reach]at h
  split at h
  case h_2=>simp at h
  rename_i o g;simp only[c6,hO,da,beq_iff_eq,decide_eq_true_eq]at h;rcases h with⟨e,b,a,rfl⟩|⟨e,b,⟨a,_⟩,k⟩
  ·exact d o g e (by simpa using b) a
  ·have m:=d o g e (by simpa using b) a;exact Bk hc f i e.on k (fun o' p e' n l=>hc _ o' p m e' n l)
end
section
variable{P:dz}{ag:ed->Bool}{n:Nat}
theorem sH(a:Nat)(l:List Obj):(newAt a l).map (·.1)=nL a l:=by
 induction l generalizing a with
 |nil=>rfl
 |cons o l b=>simp[newAt,nL,b]
theorem H4{a b:Nat}{l:List Obj}:b∈nL a l↔a<=b/\b<a+l.length:=by
 induction l generalizing a with
 |nil=>simp[nL]
 |cons o l c=>simp only[nL,hE,c,List.length_cons];omega
theorem xX{l:List (Nat×Obj)}{b:Nat}(h:b∉l.map (·.1)):∀H:Heap,(bm H l)[b]?=H[b]?:=by
 induction l with
 |nil=>intro H;rfl
 |cons p l a=>
  obtain⟨c,o⟩:=p;intro H;simp only[hC,hE,not_or]at h;simp only[bm];rw[a h.2,hG (Ne.symm h.1)]
theorem UT{l:List (Nat×Obj)}{b:Nat}(h:b∈l.map (·.1)):∀H H':Heap,H.length=H'.length->(bm H l)[b]?=(bm H' l)[b]?:=by
 induction l with
 |nil=>simp at h
 |cons p l f=>
  obtain⟨c,o⟩:=p;intro H H' d;simp only[bm]
  by_cases a:b∈l.map (·.1)
  ·exact f a _ _ (by simp[d])
  ·rw[xX a,xX a];simp only[hC,hE]at h;have:b=c:=h.resolve_right a;subst this
   by_cases e:b<H.length
   ·rw[hz e,hz (by omega)]
   ·rw[hV (by simp;omega),hV (by simp;omega)]
def cW(es:List (St×aS))(s':St)(k:Nat):St:=match es[k]? with
 |some (s,_)=>s
 |none=>s'
def fB(es:List (St×aS))(k:Nat):aS:=match es[k]? with
 |some (_,e)=>e
 |none=>{v:=.p .undef}
theorem Tr.at{a:Array Oper}:∀{l:List Oper}{i:Nat}{s s':St}{es:List (St×aS)},Tr P n a l i s es s'->es.length=l.length/\cW es s' 0=s/\
 ∀k o,l[k]?=some o->Dt P n a o (cW es s' k) (fB es k)/\cW es s' (k+1)=(fB es k).app o.dst (cW es s' k)
 |_,_,_,_,_,.nil i s=>⟨rfl,rfl,fun k o h=>by simp at h⟩
 |_,_,_,_,_,.cons (o:=o) (r:=r) (i:=i) (s:=s) (s':=s') (e:=e) (es:=es) hi d=>by
  obtain⟨h1,b,c⟩:=d.at;refine⟨by simp[h1],rfl,fun k o' hk=>?_⟩;cases k with
  |zero=>
   simp at hk;subst hk;refine⟨by simpa[cW,fB]using hi,?_⟩;have:cW ((s,e)::es) s' (0+1)=cW es s' 0:=by simp[cW]
   rw[this,b];simp[cW,fB]
  |succ k=>
   have e1:∀m,cW ((s,e)::es) s' (m+1)=cW es s' m:=fun m=>by simp[cW]
   have e2:fB ((s,e)::es) (k+1)=fB es k:=by simp[fB]
   rw[e1,e1,e2];exact c k o' (by simpa using hk)
theorem TT(u:Touch)(i:Nat):jd u ⟨i,[],[]⟩=false:=by
 simp[jd]
theorem Ty(i b:Nat)(e:aS)(a:List Touch):(gQ i b e a=a/\hJ i b e=⟨i,[],[]⟩)\/gQ i b e a=hJ i b e::a:=by
 unfold gQ
 split
 ·rename_i c d f;exact .inl ⟨rfl,by simp[hJ,c,d,f,nL]⟩
 ·exact .inr rfl
theorem I3{c:Array Oper}:∀(g:List (St×aS))(i:Nat)(d:List Touch),ke c (o9 i g d)=true->ke c d=true/\
 (∀u∈d,∀b s e,g[b]?=some (s,e)->jd u (hJ (i+b) s.heap.length e)=true->reach c c.size u.i (i+b)=true)/\
 (∀a b s e f e2,a<b->g[a]?=some (s,e)->g[b]?=some (f,e2)->jd (hJ (i+a) s.heap.length e) (hJ (i+b) f.heap.length e2)=true->reach c c.size (i+a) (i+b)=true)
 |[],i,d,h=>⟨h,by simp,by simp⟩
 |(s,e)::g,i,d,h=>by
  simp only[o9]at h;obtain⟨j,m,r⟩:=I3 g (i+1) _ h
  have key:ke c d=true/\(∀u∈d,jd u (hJ i s.heap.length e)=true->reach c c.size u.i i=true)/\(∀u∈d,∀b s e,g[b]?=some (s,e)->jd u (hJ (i+1+b) s.heap.length e)=true->reach c c.size u.i (i+1+b)=true)/\
   (∀b f e2,g[b]?=some (f,e2)->jd (hJ i s.heap.length e) (hJ (i+1+b) f.heap.length e2)=true->reach c c.size i (i+1+b)=true):=by
   rcases Ty i s.heap.length e d with⟨o,q⟩|o
   ·rw[o]at j m;refine⟨j,fun u _ hc=>?_,m,fun b f e2 _ hc=>?_⟩
    ·rw[q,TT]at hc;cases hc
    ·rw[q]at hc;simp[jd]at hc
   ·rw[o]at j m;simp only[ke,da,ii]at j;refine⟨j.2,fun u l hc=>?_,fun u l=>m u (by simp[l]),m _ (by simp)⟩;have:=j.1 u l;rw[hc]at this;exact(by simpa using this:reach c c.size u.i (hJ i s.heap.length e).i=true)
  obtain⟨k1,k2,k3,k4⟩:=key;refine⟨k1,?_,?_⟩
  ·intro u l b p e1 k hc;cases b with
   |zero=>simp at k;obtain⟨rfl,rfl⟩:=k;exact k2 u l hc
   |succ b=>
    have:=k3 u l b p e1 (by simpa using k);rw[show i+(b+1)=i+1+b by omega]at hc⊢;exact this hc
  ·intro a b p e1 f e2 t n k hc;cases b with
   |zero=>omega
   |succ b=>
    rw[show i+(b+1)=i+1+b by omega]at hc⊢;cases a with
    |zero=>
     simp at n;obtain⟨rfl,rfl⟩:=n;exact k4 b f e2 (by simpa using k) hc
    |succ a=>
     rw[show i+(a+1)=i+1+a by omega]at hc⊢;exact r a b p e1 f e2 (by omega) (by simpa using n) (by simpa using k) hc
end
section
variable{P:dz}{ag:ed->Bool}{n:Nat}
def hx(N:Nat)(s:St):Heap:=s.heap++hB (N-s.heap.length) .hole
def um(a:Nat)(e:aS):List Nat:=(e.aJ++newAt a e.aQ).map (·.1)
theorem ZQ{N:Nat}{s:St}{e:aS}{o:Oper}(aJ:∀p∈e.aJ,p.1<s.heap.length)(d:(e.app o.dst s).heap.length<=N):hx N (e.app o.dst s)=bm (hx N s) (e.aJ++newAt s.heap.length e.aQ):=by
 have b:(e.app o.dst s).heap=bm s.heap e.aJ++e.aQ:=rfl;have f:(e.app o.dst s).heap.length=s.heap.length+e.aQ.length:=by rw[b];simp[oH]
 unfold hx;rw[b];have c:N-s.heap.length=e.aQ.length+(N-(s.heap.length+e.aQ.length)):=by omega
 rw[c,<-List.replicate_append_replicate,<-hM,xA _ _ _ (by
  intro p a;rcases ik.1 a with a|a
  ·have:=aJ p a;simp;omega
  ·have:p.1∈(newAt s.heap.length e.aQ).map (·.1):=List.mem_map_of_mem a
   rw[sH,H4]at this;simp;omega)]
 rw[A4,xA _ _ _ aJ];have:=Bj (bm s.heap e.aJ) e.aQ;rw[oH]at this;rw[this];congr 2;simp[oH]
section sched
variable{ops:Array Oper}{es:List (St×aS)}{s0 s':St}
structure iU(P:dz)(n:Nat)(ops:Array Oper)(es:List (St×aS))(s':St):Prop where
 len:es.length=ops.size
 at_:∀k o,ops[k]?=some o->Dt P n ops o (cW es s' k) (fB es k)/\cW es s' (k+1)=(fB es k).app o.dst (cW es s' k)
 dst:∀o∈ops.toList,iT n o=true
 lower:∀j o,ops[j]?=some o->∀e∈o.after,hg .any e=true->e.on<j
 tmps:∀i j u o,i<j->ops[i]?=some u->ops[j]?=some o->qx ops u o=true->reach ops ops.size i j=true
 heap:∀i j,i<j->j<ops.size->jd (hJ i (cW es s' i).heap.length (fB es i)) (hJ j (cW es s' j).heap.length (fB es j))=true->reach ops ops.size i j=true
def wr(a:List (St×aS))(s':St)(i:Nat):List Nat:=um (cW a s' i).heap.length (fB a i)
structure At(ops:Array Oper)(es:List (St×aS))(s':St)(D:Nat->Prop)(s:St):Prop where
 tmp:∀x,∃k,k<=ops.size/\aM s.env x=aM (cW es s' k).env x/\∀i o,ops[i]?=some o->o.dst=some x->(D i↔i<k)
 len:s.heap.length=s'.heap.length
 heap:∀b,∃k,k<=ops.size/\s.heap[b]?=(hx s'.heap.length (cW es s' k))[b]?/\∀i,i<ops.size->b∈wr es s' i->(D i↔i<k)
variable(h:iU P n ops es s')
include h
theorem iU.mono:∀{k m:Nat},k<=m->m<=ops.size->(cW es s' k).heap.length<=(cW es s' m).heap.length:=by
 intro k m e f
 induction m with
 |zero=>
  obtain rfl:k=0:=by omega
  exact i4 _
 |succ m c=>
  by_cases hk:k=m+1
  ·subst hk;exact i4 _
  ·have d:=c (by omega) (by omega);have b:ops[m]?=some ops[m]:=ck (by omega);obtain⟨_,a⟩:=h.at_ m _ b;rw[a];simp only[aS.app,hA,oH];omega
theorem iU.last:cW es s' ops.size=s':=by
 have:es[ops.size]?=none:=hV (by rw[h.len];exact i4 _);simp[cW,this]
theorem iU.wM{k:Nat}(hk:k<=ops.size):(cW es s' k).heap.length<=s'.heap.length:=by
 have:=h.mono hk (i4 _)
 rwa [h.last]at this
theorem iU.gT{k:Nat}(hk:k<ops.size):hx s'.heap.length (cW es s' (k+1))=bm (hx s'.heap.length (cW es s' k)) ((fB es k).aJ++newAt (cW es s' k).heap.length (fB es k).aQ):=by
 have c:ops[k]?=some ops[k]:=ck hk;obtain⟨h1,b⟩:=h.at_ k _ c;have a:=h.wM (k:=k+1) hk;rw[b]at a⊢;exact ZQ h1.aJ a
theorem ZP{k:Nat}(hk:k<=ops.size):(hx s'.heap.length (cW es s' k)).length=s'.heap.length:=by
 have:=h.wM hk;simp[hx];omega
theorem iU.Kx{x:Nat}:∀{k m:Nat},k<=m->m<=ops.size->(∀i o,k<=i->i<m->ops[i]?=some o->o.dst≠some x)->aM (cW es s' m).env x=aM (cW es s' k).env x:=by
 intro k m j
 induction m with
 |zero=>
  intro _ _;obtain rfl:k=0:=by omega
  rfl
 |succ m g=>
  intro l d
  by_cases hk:k=m+1
  ·subst hk;rfl
  ·have e:=g (by omega) (by omega) (fun i o a b=>d i o a (by omega));have c:ops[m]?=some ops[m]:=ck (by omega);obtain⟨_,f⟩:=h.at_ m _ c;rw[f];simp only[aS.app,u4];rw[if_neg (d m _ (by omega) (by omega) c)];exact e
theorem iU.J4{b:Nat}:∀{k m:Nat},k<=m->m<=ops.size->(∀i,k<=i->i<m->b∉wr es s' i)->(hx s'.heap.length (cW es s' m))[b]?=(hx s'.heap.length (cW es s' k))[b]?:=by
 intro k m f
 induction m with
 |zero=>
  intro _ _;obtain rfl:k=0:=by omega
  rfl
 |succ m e=>
  intro g c
  by_cases hk:k=m+1
  ·subst hk;rfl
  ·have d:=e (by omega) (by omega) (fun i a b=>c i a (by omega));rw[h.gT (by omega),xX (c m (by omega) (by omega))];exact d
theorem iU.LQ{x:Nat}{k m:Nat}(hk:k<=ops.size)(g:m<=ops.size)(f:∀i o,ops[i]?=some o->o.dst=some x->(i<k↔i<m)):aM (cW es s' m).env x=aM (cW es s' k).env x:=by
 rcases j3 k m with d|d
 ·exact h.Kx d g fun i o a b e c=>by have:=f i o e c;omega
 ·exact(h.Kx d hk fun i o a b e c=>by have:=f i o e c;omega).symm
theorem iU.Ly{b:Nat}{k m:Nat}(hk:k<=ops.size)(g:m<=ops.size)(f:∀i,i<ops.size->b∈wr es s' i->(i<k↔i<m)):(hx s'.heap.length (cW es s' m))[b]?=(hx s'.heap.length (cW es s' k))[b]?:=by
 rcases j3 k m with e|e
 ·exact h.J4 e g fun i a c d=>by have:=f i (by omega) d;omega
 ·exact(h.J4 e hk fun i a c d=>by have:=f i (by omega) d;omega).symm
variable{D:Nat->Prop}(hc:vU ops D)
include hc
theorem iU.order{i:Nat}{o:Oper}(k:ops[i]?=some o)(h:¬D i)(l:∀e∈o.after,hg .any e=true->D e.on):
 (∀j,j<i->reach ops ops.size j i=true->D j)/\(∀j,j<ops.size->i<j->reach ops ops.size i j=true->¬D j):=by
 constructor
 ·intro j g b;exact Bk hc _ _ _ b (fun o' a=>by rw[k]at a;cases a;exact l)
 ·intro j m g b d;exact h (Bk hc _ _ _ b (fun o' a e f c=>hc j o' a d e f c))
theorem iU.reads{i:Nat}{o:Oper}(l:ops[i]?=some o)(q:¬D i)(y:∀e∈o.after,hg .any e=true->D e.on){s:St}(t:At ops es s' D s):
 (∀x∈looks ops o,aM s.env x=aM (cW es s' i).env x)/\(∀b,b∈(fB es i).ak.map (·.1)\/b∈wr es s' i->s.heap[b]?=(hx s'.heap.length (cW es s' i))[b]?):=by
 obtain⟨v,w⟩:=h.order hc l q y;have hi:i<ops.size:=(b5.1 l).1;constructor
 ·intro x hx;obtain⟨k,k1,k2,k3⟩:=t.tmp x;rw[k2];refine h.LQ (by omega) k1 fun j u m p=>?_;have g:j<ops.size:=(b5.1 m).1;rw[<-k3 j u m p];constructor
  ·intro a;refine v j a (h.tmps j i u o a m l ?_);simp[qx,p,hx]
  ·intro f;rcases i6 j i with a|rfl|a
   ·exact a
   ·exact(q f).elim
   ·exact(w j g a (h.tmps i j o u a l m (by simp[qx,p,hx])) f).elim
 ·intro b c;obtain⟨k,k1,k2,k3⟩:=t.heap b;rw[k2];refine h.Ly (by omega) k1 fun j g n=>?_;rw[<-k3 j g n];have r:b∈(hJ j (cW es s' j).heap.length (fB es j)).wr:=by
   unfold wr um at n;rw[hK,sH]at n;exact n
  have d:b∈(hJ i (cW es s' i).heap.length (fB es i)).rd\/b∈(hJ i (cW es s' i).heap.length (fB es i)).wr:=by
   rcases c with c|c
   ·exact .inl c
   ·unfold wr um at c;rw[hK,sH]at c;exact .inr c
  constructor
  ·intro a;refine v j a (h.heap j i a hi ?_);simp only[jd,c6,hO,hN];exact .inl ⟨b,r,d⟩
  ·intro f;rcases i6 j i with a|rfl|a
   ·exact a
   ·exact(q f).elim
   ·refine(w j g a (h.heap i j a g ?_) f).elim;simp only[jd,c6,hO,hN];rcases d with d|d
    ·exact .inr ⟨b,d,r⟩
    ·exact .inl ⟨b,d,.inr r⟩
theorem iU.next{i:Nat}{o:Oper}(l:ops[i]?=some o)(z:¬D i)(A:∀e∈o.after,hg .any e=true->D e.on){s:St}(p:At ops es s' D s):
 At ops es s' (fun j=>D j\/j=i) ⟨put o.dst (fB es i).v s.env,bm s.heap ((fB es i).aJ++newAt (cW es s' i).heap.length (fB es i).aQ)⟩:=by
 obtain⟨w,y⟩:=h.order hc l z A;have hi:i<ops.size:=(b5.1 l).1;obtain⟨B,gT⟩:=h.at_ i o l;refine⟨fun x=>?_,by simp only[oH];exact p.len,fun b=>?_⟩
 ·by_cases hx:o.dst=some x
  ·refine⟨i+1,hi,?_,fun j u d n=>?_⟩
   ·rw[gT];simp[aS.app,u4,hx]
   ·have g:j<ops.size:=(b5.1 d).1;constructor
    ·rintro(c|rfl)
     ·rcases i6 j i with a|rfl|a
      ·omega
      ·omega
      ·exact(y j g a (h.tmps i j o u a l d (by simp[qx,n,hx])) c).elim
     ·omega
    ·intro a
     by_cases q:j=i
     ·exact .inr q
     ·exact .inl (w j (by omega) (h.tmps j i u o (by omega) d l (by simp[qx,n,hx])))
  ·obtain⟨k,k1,k2,k3⟩:=p.tmp x;refine⟨k,k1,?_,fun j u d n=>?_⟩
   ·simp only[u4];rw[if_neg hx];exact k2
   ·rw[<-k3 j u d n];constructor
    ·rintro(c|rfl)
     ·exact c
     ·rw[l]at d;cases d;exact(hx n).elim
    ·exact .inl
 ·by_cases f:b∈wr es s' i
  ·refine⟨i+1,hi,?_,fun j g m=>?_⟩
   ·rw[h.gT hi];exact UT f _ _ (by rw[ZP h (by omega)];exact p.len)
   ·have t:b∈(hJ j (cW es s' j).heap.length (fB es j)).wr:=by
     unfold wr um at m;rw[hK,sH]at m;exact m
    have r:b∈(hJ i (cW es s' i).heap.length (fB es i)).wr:=by
     unfold wr um at f;rw[hK,sH]at f;exact f
    constructor
    ·rintro(c|rfl)
     ·rcases i6 j i with a|rfl|a
      ·omega
      ·omega
      ·refine(y j g a (h.heap i j a g ?_) c).elim;simp only[jd,c6,hO,hN];exact .inl ⟨b,r,.inr t⟩
     ·omega
    ·intro a
     by_cases q:j=i
     ·exact .inr q
     ·refine .inl (w j (by omega) (h.heap j i (by omega) hi ?_));simp only[jd,c6,hO,hN];exact .inl ⟨b,t,.inr r⟩
  ·obtain⟨k,k1,k2,k3⟩:=p.heap b;refine⟨k,k1,?_,fun j g m=>?_⟩
   ·simp only;rw[xX f];exact k2
   ·rw[<-k3 j g m];constructor
    ·rintro(c|rfl)
     ·exact c
     ·exact(f m).elim
    ·exact .inl
end sched
end
end Go.aj
