import Derived.Test.YtgpphcmkjhklgaaGreatDoorThB
import Derived.Laws.StructEq
import Derived.Laws.Concat
import Derived.ChangeKeysEq
import Derived.MapKept
import Derived.Laws.RangeString
import Derived.Lib.UnsafeStr
import Derived.Laws.BytesArg
import Derived.Orders
/- Parts of a proof. -/
set_option linter.unusedSimpArgs false
set_option linter.unusedVariables false
set_option linter.unusedSectionVars false
open Array renaming getElem?_eq_some_iff->b5, ext'->cb, getElem?_toList->cc, length_toList->ce, getElem?_eq_getElem->ck, toList_push->cv, getElem?_push->cx, getD->cy
open Bool renaming or_eq_true->c6, false_eq_true->c9, and_eq_true->da
open Go renaming run_underlying->db, Operand->dg, TypeId->dk, Value->dl, execOp->dp, World->dq, Program->dz, MapEntry->ea, setRow_other->eb, setRow_heap->ec, FuncId->ed, Field->ee, step_leave_returned->ei, run_storeCells_at->ej, TypeDesc->em, IntKind->en, Frame->eo
open Go.Builtin renaming firstCells->eq, clear_->ew, unsafeString_->e6, zeroCells->e7, copy_->e8, min2->e9, max2->fa, unsafeSliceData_->fb, min_->fd, max_->fl, lenOf->fm, cap_->fv
open Go.ByteArray renaming toList_eq->fZ
open Go.Call renaming operands->gb
open Go.Instr renaming findNow->gc, findAsking->ge, checkKey->gg, findKey->gi, mapUpdate->gj, lookup->gm, sameNow->gt, next->gx
open Go.MapKept renaming run_getObj_map->gy, bytes_beq->g0
open Go.Op renaming operands->g7, equalIn->g8, equal->g9, bytesLess->ha, eqFields->hb, eqItems->hd, stringOp->he
open Go.Region renaming wanted->hg, binds->hh
open Go.Result renaming andThen_ok->hj, andThen->hl
open Go.Sem renaming run_bind->hm, run_pure->hn, run->ho
open Go.Utf8 renaming decode->hp
open Go.Value renaming oneCell'->hr, int->ht
open Go.World renaming freeze->hv, cell?->hw
open List renaming getElem?_eq_some_iff->hz, getElem?_set_self->hA, length_append->hB, replicate->hC, map_cons->hD, append_nil->hE, mem_cons->hF, mem_cons_of_mem->hG, getElem?_set_ne->hH, mem_of_mem_take->hK, map_append->hL, size_toArray->hM, append_assoc->hN, contains_iff_mem->hO, any_eq_true->hP, mem_of_mem_drop->hQ, map_toArray->hR, length_eq_zero_iff->hS, take_of_length_le->hT, map_nil->hU, map_map->hV, getElem?_eq_none->hW, replicate_succ->hX, map_congr_left->hZ, length_pos_iff->h0, flatten_append->h2, mem_singleton->h3, getElem?_map->h4, length->h5, nil_append->h6, drop_zero->h7, getElem?_append_left->h8, getElem?_eq_getElem->h9, map->ih, take_succ_cons->ii, all_eq_true->ik, mem_append->ip, length_map->ix, sum_cons->iz, mem_map->iL, map_id->i0, range->i4
open Nat renaming le_refl->i5, lt_irrefl->i6, lt_trichotomy->i7, add_zero->i8, le_add_right->i9, zero_add->jp, add_mul->js, zero_mul->j1, succ_mul->j2, ne_of_lt->j3, le_total->j4
open Option renaming isSome_iff_exists->j5
open PUnit renaming unit->j6
open UInt8 renaming toNat_ofNat'->j7, toNat_inj->j8, ofNat->j9
namespace Go.ag
set_option linter.unusedSectionVars false
variable[Gl]
section
variable{P:dz}{w:dq}{ad ai:Nat->Prop}{β:Bd}{H:Heap}
variable{o:Oper}{ρ:dg->AV}{base:Nat}
theorem zb{c:Call}{s x:dg}(D:o.op= .call c)(hc:c.callee= .builtin .append)(y:c.args.toList=[s,x]){T X e:dk}(I:c.argTypes=#[T,X]){i:TypeInfo}{j:dl}{sz:Nat}(u:rA P T sz e i)(v:iF P X=true)
 (L:i.zero=some j)(M:j.cells.size=sz)(F:bU P w ad β H ai){g:dg->dl}{p:Option Addr}{b f:Nat}{olds a:List AV}{ocss:List (List dl)}(hs:g s=.slice p b f)(m:olds.length=b)(l:Row P w ad β H sz olds ocss)(E:aV (aH H) olds)
 (C:(eq sz b (.slice p b f)).run P w.drew=.ok ocss.flatten.toArray w.drew)
 (hx:gK H (ρ x)=some a)(K:az P w ad β H (ρ x) (g x))(J:aD (aH H) (ρ x))(G:fe P sz a)(A:f<b+a.length)(B:b+a.length<=di):
 ∃cap cells d N,(dp g o).run P w=.ok (.value (.slice (some ⟨w.heap.size,0,none⟩) (b+a.length) cap)) {w.drew with heap:=w.heap.push (.cells cells e)}/\
  Row P w ad β H sz (olds++a) d/\aV (aH H) (olds++a)/\cells.toList=d.flatten++N/\cells.size=cap*sz/\(olds++a).length<=cap:=by
 obtain⟨d,h,q,r,t⟩:=xl hx F K J G;have k:=t w.drew rfl a.length (i5 _);have O:d.length=a.length:=(fN h).1;rw[hT (by omega)]at k;obtain⟨cap,z,n⟩:=Wi u v L o.type (sLen:=b) (sCap:=f) (p:=p) (g x) r C k A B;rw[<-I,<-hs]at n;refine⟨cap,_,ocss++d,(e7 j.cells (cap-(b+a.length))).toList,zm D hc y n,lB.2 ⟨_,_,rfl,l,h⟩,jF E q,by simp,?_,by simpa[m]using z⟩;have e1:=(fN l).2;have e2:=(fN h).2;simp only[Array.size_append,hM,Jv,M,e1,e2,m,<-js];congr 1;omega
theorem uW{T:dk}:gk P T≠.frozen/\gk P T≠.exact:=by
 unfold gk;split<;>simp
theorem Fe{T e:dk}(h:eH P T=e)(hk:gk P T=.bytes):e=Gl.u8:=by
 unfold gk at hk
 split at hk
 ·rename_i a;rw[<-h];exact a
 ·cases hk
theorem C9{_o':Obj}{k:AK}{a:List AV}{b:List (List dl)}{r:List dl}{cells:Array dl}{e:dk}{cap sz:Nat}(j:bU P w ad β H ai)(c:H[base]?=some .hole)
 (g:k≠.frozen)(i:¬df k a)(m:Row P w ad β H sz a b)(d:aV (aH H) a)(hc:cells.toList=b.flatten++r)(o:cells.size=cap*sz)(h:a.length<=cap)(f:k=.exact->cap=a.length)(p:k=.bytes->e=Gl.u8):
 bY P ai ad w β H ad {w.drew with heap:=w.heap.push (.cells cells e)} (β.at base w.heap.size cap) (bf H ([]++newAt base [.arr k 0 sz a]))/\
 az P {w.drew with heap:=w.heap.push (.cells cells e)} ad (β.at base w.heap.size cap) (bf H ([]++newAt base [.arr k 0 sz a])) (.sl base 0 sz 0 a.length) (.slice (some ⟨w.heap.size,0,none⟩) a.length cap)/\
 aD (aH (bf H ([]++newAt base [.arr k 0 sz a]))) (.sl base 0 sz 0 a.length):=by
 have l:bU P w.drew ad β H ai:=bU.xa (w:=w) (w':=w.drew) rfl j;have n:Row P w.drew ad β H sz a b:=Row.mono (w:=w) (w':=w.drew) (fun _ x=>x) (fun _ _=>rfl) (cj.refl _ _) d m;obtain⟨q1,q⟩:=zC (T:=e) (k:=k) l c g i n d hc o h f p;rw[lY];exact⟨bY.drew (w1:=w.drew) rfl ⟨rfl,rfl⟩ q1,q,⟨_,hA (hz.1 c).1,i5 _⟩⟩
theorem LF{b:Nat}{k k':AK}{aw aj:Nat}{i es':List AV}{al cap:Nat}(f:H[b]?=some (.arr k aw aj i)):cj β H (β.at b al cap) (H.set b (.arr k' (aw+1) aj es')):=by
 have j:b<H.length:=(hz.1 f).1;have c:∀x,x≠b->(H.set b (.arr k' (aw+1) aj es'))[x]?=H[x]?:=fun x hx=>hH (Ne.symm hx);have a:(H.set b (.arr k' (aw+1) aj es'))[b]?=some (.arr k' (aw+1) aj es'):=hA j;refine⟨?_,?_,?_,?_,?_⟩
 ·rintro x _ ⟨fz,t,h⟩
  by_cases hx:x=b
  ·subst hx;rw[a]at h;cases h
  ·rw[c x hx]at h;exact⟨⟨fz,t,h⟩,by simp[Bd.at,hx]⟩
 ·rintro x _ ⟨fz,t,h⟩
  by_cases hx:x=b
  ·subst hx;rw[a]at h;cases h
  ·rw[c x hx]at h;exact⟨⟨fz,t,h⟩,by simp[Bd.at,hx]⟩
 ·rintro x _ ⟨n,h,e⟩
  by_cases hx:x=b
  ·subst hx;rw[a]at h;cases h;exact e.elim
  ·rw[c x hx]at h;exact⟨⟨n,h,e⟩,by simp[Bd.at,hx]⟩
 ·intro x v z m g hi h;unfold eS at h
  by_cases hx:x=b
  ·subst hx;rw[a]at h;cases h;obtain⟨o,d,l⟩:=hi;simp only at d;rw[f]at d;cases d;simp only[Obj.has]at l;omega
  ·rw[c x hx]at h;exact⟨m,g,h,i5 _,Iff.rfl,fun _=>by simp[Bd.at,hx]⟩
 ·rintro x _ ⟨L,h⟩
  by_cases hx:x=b
  ·subst hx;rw[a]at h;cases h
  ·rw[c x hx]at h;exact⟨⟨L,h⟩,by simp[Bd.at,hx]⟩
theorem Bd.WZ(β:Bd)(b:Nat):β.at b (β.al b) (β.cap b)=β:=by
 cases β with
 |mk al cap=>
  simp only[Bd.at,Bd.mk.injEq];constructor
  ·funext x;split
   ·rename_i h;rw[h]
   ·rfl
  ·funext x;split
   ·rename_i h;rw[h]
   ·rfl
theorem Cr{α:Type}(A M Z X:List α):(A++M++Z).take A.length++X++(A++M++Z).drop (A.length+M.length)=A++X++Z:=by
 rw[hN A M Z,List.take_left,<-hN,<-hB,List.drop_left]
theorem WC{c:Call}{s x:dg}(Y:o.op= .call c)(hc:c.callee= .builtin .append)(W:c.args.toList=[s,x])(bT:c.argTypes.size=2){H0:Heap}{K:aY->Prop}
 (h:nX P (c.argTypes.getD 0 0) (c.argTypes.getD 1 0) H0 (ρ s) (ρ x) K):
 ∃e,K e/\bu P o ρ H0.length e/\(∀p∈e.ak,H0[p.1]?=some p.2)/\(∀p∈e.aJ,p.1<H0.length/\p.2≠.hole):=by
 obtain⟨T,X,S⟩:∃T X,c.argTypes=#[T,X]:=by
  obtain⟨l,I⟩:∃l,l=c.argTypes.toList:=⟨_,rfl⟩
  have af:l.length=2:=by rw[I];simpa using bT
  match l,af with
  |[a,b],_=>exact⟨a,b,by apply cb;simp[<-I]⟩
 have B:s∈o.op.operands/\x∈o.op.operands:=by
  have bF:c.args=#[s,x]:=by apply cb;simpa using W
  rw[Y];simp[g7,gb,hc,bF]
 have e1:c.argTypes.getD 0 0=T:=by rw[S];rfl
 have e2:c.argTypes.getD 1 0=X:=by rw[S];rfl
 rw[e1,e2]at h;unfold nX at h
 split at h
 case h_2=>exact h.elim
 rename_i sz g F hx;obtain⟨ag,a8,am,h⟩:=h;obtain⟨e,i,F⟩:=kg F;obtain⟨z,a8⟩:=j5.1 a8;obtain⟨b3,b0,be,z2,z3,z4⟩:=pQ a8;rw[F.ri]at be z4;rw[F.info]at be;cases be;have aT:b0.cells.size=sz:=by
  obtain⟨_,i2,k1,k2⟩:=zd (v:=.p z) (w:=default) (ad:=fun _=>False) (β:=⟨id,id⟩) (H:=[]) z4 (by simp only[bp];exact z3 _ _);rw[F.info]at k1;cases k1;have:=F.size;simp at k2;omega
 have ba:∀{ak:List (Nat×Obj)},(∀p∈dD H0 (ρ x),p∈ak)->(∀p∈ak,H0[p.1]?=some p.2)->g=[]->(∀(H:Heap)(w:dq)(ad ai:Nat->Prop)(β:Bd)(v:dl),bU P w ad β H ai->(∀p∈ak,H[p.1]?=some p.2)->az P w ad β H (ρ s) v->∃p a b,v= .slice p a b/\a<=b)->
  bu P o ρ H0.length {v:=ρ s,ak}:=by
  intro ak bS au bV bP;subst bV;refine bu.same fun H w ad ai β ar f j ak=>?_;obtain⟨p,a,b,u,bE⟩:=bP H w ad ai β _ f ak (j s B.1).1;obtain⟨E,C,af,bB,bC⟩:=xl (pJ hx (fun p u=>ak p (bS p u))) f (j x B.2).1 (j x B.2).2 am;have bj:=bC w rfl 0 (i5 _);simp only[List.take_zero,List.flatten_nil]at bj;have R:=Vi F ag o.type (p:=p) (sLen:=a) (sCap:=b) _ bB bj bE;rw[<-S,<-u]at R;exact⟨_,zm Y hc W R,by rw[u];exact u▸(j s B.1).1,(j s B.1).2⟩
 have a9:∀l:List AV,l.isEmpty=true->l=[]:=fun l h=>by simpa using h
 split at h
 ·
  rename_i hs
  split at h
  ·rename_i G;refine⟨_,h,?_,nN,by simp⟩;exact ba (fun p u=>u) nN (a9 _ G) (fun H w ad ai β v _ _ A=>by rw[hs]at A;simp only[az,aC]at A;exact⟨_,_,_,A,i5 _⟩)
  ·rename_i G;obtain⟨bo,h⟩:=h;refine⟨_,h,?_,nN,by simp⟩;intro H w ad ai β ar f j ak aG;have ah:H[H0.length]?=some .hole:=by simpa using aG 0 (by simp)
   have Q:=(j s B.1).1;rw[hs]at Q;simp only[az,aC]at Q;have br:0<g.length:=h0.2 (by simpa using G);obtain⟨cap,cells,E,D,ab,an,ac,ao,ap,aq⟩:=zb Y hc W S F ag z2 aT f Q (olds:=[]) (ocss:=[]) rfl (hJ.2 rfl) (by simp[aV]) (by simp[eq])
    (pJ hx ak) (j x B.2).1 (j x B.2).2 am (by omega) (by omega)
   obtain⟨q1,Z,aa⟩:=C9 (base:=H0.length) (k:=gk P T) (e:=e) (_o':=.hole) f ah uW.1 (fun q=>G (by simpa using q.2)) an ac ao ap aq (fun h=>(uW.2 h).elim) (Fe F.ri);simp only[h6,jp]at ab q1 Z aa;exact⟨_,_,_,_,ad,ab,.inl rfl,q1,Z,aa⟩
 ·
  rename_i full d hs;obtain⟨bG,h⟩:=h
  have Q:∀{H:Heap}{w:dq}{ad:Nat->Prop}{β:Bd}{v:dl},az P w ad β H (ρ s) v->∃p c N,v= .slice p d.length c/\d.length<=c/\(full=true->c=d.length)/\Row P w ad β H sz (d.map .p) N/\
   (∀w':dq,w'.heap=w.heap->(eq sz d.length v).run P w'=.ok N.flatten.toArray w'):=by
   intro H w ad β v A;rw[hs]at A;simp only[az,aC]at A;obtain⟨al,off,cap,aj,E,v1,v2,v3,v4,v5,sp,bQ,rfl⟩:=A;rcases bQ with rfl|rfl
   case inr=>
    obtain rfl:d=[]:=hS.1 (by omega);exact⟨_,_,[],rfl,by simp,by simp,hJ.2 rfl,fun w' _=>Cj⟩
   have aM:Row P w ad β H aj (d.map .p) E:=mf.2 v1;have bw:Row P w ad β H sz (d.map .p) E:=by
    by_cases bq:d.map AV.p=[]
    ·rw[bq]at aM⊢;rw[hJ]at aM⊢;exact aM
    ·rw[<-uj aM bG bq];exact aM
   refine⟨_,_,E,rfl,v5,v4,bw,fun w' a7=>wz (by have:=(fN bw).2;simpa using this) (v3.same (by rw[a7]))⟩
  split at h
  ·rename_i G;refine⟨_,h,?_,nN,by simp⟩;exact ba (fun p u=>u) nN (a9 _ G) (fun H w ad ai β v _ _ A=>by obtain⟨p,c,_,C,af,_⟩:=Q A;exact⟨p,_,c,C,af⟩)
  ·rename_i G;obtain⟨hf,bo,h⟩:=h;refine⟨_,h,?_,nN,by simp⟩;intro H w ad ai β ar f j ak aG;have ah:H[H0.length]?=some .hole:=by simpa using aG 0 (by simp)
   have br:0<g.length:=h0.2 (by simpa using G);obtain⟨p,cp,N,s1,s2,bX,bZ,bA⟩:=Q (j s B.1).1;rw[s1]at bA;obtain⟨cap,cells,E,D,ab,an,ac,ao,ap,aq⟩:=zb Y hc W S F ag z2 aT f s1 (olds:=d.map .p) (by simp) bZ (jb _ _) (bA w.drew rfl)
    (pJ hx ak) (j x B.2).1 (j x B.2).2 am (by have:=bX hf;omega) (by omega)
   obtain⟨q1,Z,aa⟩:=C9 (base:=H0.length) (k:=gk P T) (e:=e) (_o':=.hole) f ah uW.1 (fun q=>G (by have:=q.2;simp at this;simp[this.2])) an ac ao ap aq (fun h=>(uW.2 h).elim) (Fe F.ri);simp only[hB,ix]at Z aa;exact⟨_,_,_,_,ad,ab,.inl rfl,q1,Z,aa⟩
 ·
  rename_i b aw aj off len hs
  split at h
  case h_2=>exact h.elim
  rename_i k b4 b1 d a5;obtain⟨rfl,rfl,rfl,hlen,h⟩:=h;have au:∀p∈(b,Obj.arr k aw aj d)::dD H0 (ρ x),H0[p.1]?=some p.2:=by
   intro p u;rcases hF.1 u with rfl|u
   ·exact a5
   ·exact nN p u
  have Q:∀{H:Heap}{w:dq}{ad ai:Nat->Prop}{β:Bd}{v:dl},bU P w ad β H ai->H[b]?=some (.arr k aw aj d)->az P w ad β H (ρ s) v->
   (df k d/\v=.slice none 0 0/\len=0)\/(¬df k d/\v=.slice (some ⟨β.al b,off*aj,none⟩) len (β.cap b-off)/\
   ∃cs T E D,w.heap[β.al b]?=some (.cells cs T (0,0))/\Row P w ad β H aj d E/\cs.toList=E.flatten++D/\
   cs.size=β.cap b*aj/\d.length<=β.cap b/\(k=.exact->β.cap b=d.length)/\cz ad β ai (k== .frozen) b/\(k=.bytes->T=Gl.u8)):=by
   intro H w ad ai β v f t A;rw[hs]at A;simp only[az,bN,bR]at A;obtain⟨_,v2,v3⟩:=A.2 k d t
   by_cases q:df k d
   ·exact .inl ⟨q,v2 q,by have:=q.2;subst this;simp at hlen;omega⟩
   ·rcases f.cC b _ t with hold|⟨cs,O,E,D,k1,k2,k3,k4,k5,k6,k7,k8⟩
    ·exact(q hold).elim
    ·exact .inr ⟨q,v3 q,cs,O,E,D,k1,k2,k3,k4,k5,k6,k7,k8.2⟩
  have holds:∀{H:Heap}{w:dq}{ad:Nat->Prop}{β:Bd}{cs:Array dl}{O:dk}{E:List (List dl)}{D:List dl},w.heap[β.al b]?=some (.cells cs O (0,0))->Row P w ad β H aj d E->cs.toList=E.flatten++D->
   ∃N,Row P w ad β H aj ((d.drop off).take len) N/\∀(w':dq)(n c:Nat),w'.heap=w.heap->(eq aj len (.slice (some ⟨β.al b,off*aj,none⟩) n c)).run P w'=.ok N.flatten.toArray w':=by
   intro H w ad β cs O E D k1 k2 k3;obtain⟨a,m,z,g1,g2,g3,g4,g5⟩:=jG k2 off len hlen;refine⟨m,g2,fun w' n c a7=>wz (by have:=(fN g2).2;rw[this];congr 1;simp;omega) ?_⟩;have:=l8 k1 (pre:=a.flatten) (xs:=m.flatten) (post:=z.flatten++D) (by rw[k3,g1];simp);rw[g3]at this;exact this.same (by rw[a7])
  split at h
  ·rename_i G;refine⟨_,h,?_,au,by simp⟩;refine ba (fun p u=>hG _ u) au (a9 _ G) (fun H w ad ai β v f ak A=>?_);rcases Q f (ak (b,_) (by simp)) A with⟨_,C,_⟩|⟨q,C,cs,O,E,D,af⟩
   ·exact⟨_,_,_,C,i5 _⟩
   ·exact⟨_,_,_,C,by omega⟩
  ·rename_i G;have br:0<g.length:=h0.2 (by simpa using G);obtain⟨bo,h⟩:=h
   split at h
   ·exact h.elim
   ·
    split at h
    ·rename_i ax;refine⟨_,h,?_,au,by simpa using(hz.1 a5).1⟩;intro H w ad ai β ar f j ak _;have t:H[b]?=some (.arr .exact aw aj d):=ak (b,_) (by simp);rcases Q f t (j s B.1).1 with⟨q,_⟩|⟨q,C,cs,O,E,D,k1,k2,k3,k4,k5,k6,k7,k8⟩
     ·cases q.1
     obtain⟨M,V,bb,bc,bd⟩:=xl (pJ hx (fun p u=>ak p (hG _ u))) f (j x B.2).1 (j x B.2).2 am;have aO:=bd w rfl g.length (i5 _);rw[hT (by have:=(fN V).1;omega)]at aO;have bm:=k6 rfl;obtain⟨a,m,ae,g1,g2,g3,g4,g5⟩:=jG k2 (off+len) g.length ax;have ay:=(fN V).2;have av:m.flatten.length=g.length*aj:=by have:=(fN g2).2;rw[this];congr 1;simp;omega
     have aP:cs.toList=a.flatten++m.flatten++(ae.flatten++D):=by rw[k3,g1];simp
     have bl:a.flatten.length=off*aj+len*aj:=by rw[g3,js]
     have bx:cs.size=a.flatten.length+m.flatten.length+(ae.flatten++D).length:=by
      have:=congrArg h5 aP;simp only[hB,ce]at this;rw[this,hB]
     have R:=Ju F ag o.type (sLen:=len) (sCap:=β.cap b-off) _ bc k1 aO (xu V) (by omega) (by rw[ay,bx,bl,av];exact i9 _ _);rw[<-S,<-C]at R;have aU:cs.toList.take (off*aj+len*aj)++M.flatten++cs.toList.drop (off*aj+len*aj+M.flatten.length)=a.flatten++M.flatten++(ae.flatten++D):=by
      rw[aP,<-bl,ay,<-av];exact Cr _ _ _ _
     rw[aU]at R;have aK:cj β H β (H.set b (.arr .exact aw aj (d.take (off+len)++g++d.drop (off+len+g.length)))):=pZ t (.inr (.inl ⟨_,_,_,_,_,rfl,rfl,by simp;omega⟩));have aE:¬ad (β.al b)/\¬ai (β.al b):=by
      unfold cz at k7;rw[if_neg (by simp)]at k7;exact k7
     have a6:∀J,ad J->(w.setRow (β.al b) (a.flatten++M.flatten++(ae.flatten++D)).toArray).heap[J]?=w.heap[J]?:=fun J a2=>eb w _ J _ (fun a1=>aE.1 (a1▸a2));have hrefs:aV (aH H) (d.take (off+len)++g++d.drop (off+len+g.length)):=by
      have bs:=cJ.1 (f.refs b _ t);refine jF (jF ?_ bb) ?_
      ·rw[cJ];exact fun v A=>bs v (hK A)
      ·rw[cJ];exact fun v A=>bs v (hQ A)
     have aQ:=mg t (o:=.arr .exact aw aj (d.take (off+len)++g++d.drop (off+len+g.length))) (fun _ h=>h);have a3:(d.take (off+len)++g++d.drop (off+len+g.length)).length=d.length:=by simp;omega
     have aL:=rp f t q (o':=.arr .exact aw aj (d.take (off+len)++g++d.drop (off+len+g.length))) (fun U=>by cases U.1) (fun _ h=>h) k1 (new:=(a.flatten++M.flatten++(ae.flatten++D)).toArray) aE aK
      (.inr ⟨_,O,a++M++ae,D,ec w _ _ _ O _ k1,by
       refine Row.mono (fun _ x=>x) a6 aK hrefs (lB.2 ⟨_,_,rfl,lB.2 ⟨_,_,rfl,g4,V⟩,g5⟩),by simp,by
       rw[<-k4,bx];simp only[hM,hB,ay,av],by rw[a3];exact k5,fun _=>by rw[a3];exact bm,k7,(fun aR=>by cases aR),k8⟩) (aV.mono aQ _ hrefs)
     refine⟨_,_,_,β,ad,zm Y hc W R,.inl rfl,aL,?_,?_⟩
     ·simp only[az,bN,bR,bf,newAt,hE];refine⟨by simp[hr],fun J bh I=>?_⟩;unfold eS at I;rw[hA (hz.1 t).1]at I;cases I;exact⟨by rw[a3];omega,(fun U=>by cases U.1),fun _=>trivial⟩
     ·simp only[aD];exact⟨_,hA (hz.1 t).1,i5 _⟩
    ·rename_i ax;refine⟨_,h,?_,au,by simp⟩;intro H w ad ai β ar f j ak aG;have ah:H[H0.length]?=some .hole:=by simpa using aG 0 (by simp)
     have t:H[b]?=some (.arr .exact aw aj d):=ak (b,_) (by simp);rcases Q f t (j s B.1).1 with⟨q,_⟩|⟨q,C,cs,O,E,D,k1,k2,k3,k4,k5,k6,k7,k8⟩
     ·cases q.1
     have bm:=k6 rfl;obtain⟨N,aN,aW⟩:=holds k1 k2 k3;have bn:((d.drop off).take len).length=len:=by simp;omega
     obtain⟨cap,cells,bg,bz,ab,an,ac,ao,ap,aq⟩:=zb Y hc W S F ag z2 aT f C (olds:=(d.drop off).take len) bn aN
      (by rw[cJ];exact fun v A=>cJ.1 (f.refs b _ t) v (hQ (hK A))) (aW w.drew _ _ rfl)
      (pJ hx (fun p u=>ak p (hG _ u))) (j x B.2).1 (j x B.2).2 am (by omega) (by omega)
     obtain⟨q1,Z,aa⟩:=C9 (base:=H0.length) (k:=gk P T) (e:=e) (_o':=.hole) f ah uW.1 (fun q=>G (by have:=q.2;simp at this;simp[this.2])) an ac ao ap aq (fun h=>(uW.2 h).elim) (Fe F.ri);rw[hB,bn]at Z aa;exact⟨_,_,_,_,ad,ab,.inl rfl,q1,Z,aa⟩
   ·
    rename_i bI bJ;obtain⟨rfl,bK,h⟩:=h;have aJ:k≠.frozen:=fun e=>bI e;have aR:k≠.exact:=fun e=>bJ e;have b2:(k==AK.frozen)=false:=by simpa using aJ
    refine⟨_,h,?_,au,by simpa using(hz.1 a5).1⟩;intro H w ad ai β ar f j ak _;have t:H[b]?=some (.arr k aw aj d):=ak (b,_) (by simp);have aA:b<H.length:=(hz.1 t).1;have aS:(d.take len).length=len:=by simp;omega
    have bv:aV (aH H) (d.take len):=by rw[cJ];exact fun v A=>cJ.1 (f.refs b _ t) v (hK A)
    have a4:¬df k (d.take len++g):=fun U=>G (by have:=U.2;simp at this;simp[this.2]);have aQ:=mg t (o:=.arr k (aw+1) aj (d.take len++g)) (fun v h=>by simp only[Obj.has]at h⊢;omega)
    have bi:∀(p:Option Addr)(aZ:Nat)(N:List (List dl)),ar s= .slice p len aZ->Row P w ad β H aj (d.take len) N->(eq aj len (.slice p len aZ)).run P w.drew= .ok N.flatten.toArray w.drew->aZ<len+g.length->
     ∃n a0 w' aI aF,(dp ar o).run P w=.ok n w'/\(n=.value a0\/n=.skip/\a0=undef)/\
      bY P ai ad w β H aF w' aI (H.set b (.arr k (aw+1) aj (d.take len++g)))/\az P w' aF aI (H.set b (.arr k (aw+1) aj (d.take len++g))) (.sl b (aw+1) aj 0 (len+g.length)) a0/\
      aD (aH (H.set b (.arr k (aw+1) aj (d.take len++g)))) (.sl b (aw+1) aj 0 (len+g.length)):=by
     intro p aZ N C bM bL bH;obtain⟨cap,cells,bg,bz,ab,an,ac,ao,ap,aq⟩:=zb Y hc W S F ag z2 aT f C (olds:=d.take len) aS bM bv bL
      (pJ hx (fun p u=>ak p (hG _ u))) (j x B.2).1 (j x B.2).2 am bH (by omega)
     have aK:=LF (β:=β) (k':=k) (es':=d.take len++g) (al:=w.heap.size) (cap:=cap) t;have aL:bY P ai ad w β H ad {w.drew with heap:=w.heap.push (.cells cells e)} (β.at b w.heap.size cap) (H.set b (.arr k (aw+1) aj (d.take len++g))):=by
      refine bY.set f aA (fun y bW=>by simp[Bd.at,bW]) (fun _ y=>y) (fun _ y=>.inl y) (fun k hk=>by have:=f.bV k hk;simp;omega) (by simp)
       (fun k _ hk=>by simp[cx,j3 hk]) (fun _=>.inl (by simp[Bd.at])) aK
       (.inr ⟨cells,e,bg,bz,by simp[Bd.at],Row.mono (fun _ y=>y) (fun k hk=>by have:=f.bV k hk;simp[cx,j3 this]) aK ac an,ao,by simp[Bd.at,ap],by simpa[Bd.at]using aq,(fun aB=>(aR aB).elim),by
        unfold cz;rw[if_neg (by simpa using aJ)];simp only[Bd.at,if_true];exact⟨fun h=>i6 _ (f.bV _ h),fun h=>i6 _ (f.ey _ h)⟩,(fun aB=>(aJ aB).elim),fun ah=>F.ri▸bK ah⟩)
       (aV.mono aQ _ ac) (fun aN v C af=>by rw[t]at C;cases C;simp only[Obj.has]at af⊢;omega) (fun L bk=>by rw[t]at bk;cases bk)
     refine⟨_,_,_,_,ad,ab,.inl rfl,aL,?_,?_⟩
     ·simp only[az,bN,bR];refine⟨by simp[hr],fun J bh I=>?_⟩;unfold eS at I;rw[hA aA]at I;cases I;exact⟨by rw[hB,aS];omega,fun U=>(a4 U).elim,fun _=>by simp[Bd.at]⟩
     ·simp only[aD];exact⟨_,hA aA,i5 _⟩
    simp only[bf,newAt,hE];rcases Q f t (j s B.1).1 with⟨q,C,rfl⟩|⟨q,C,cs,O,E,D,k1,k2,k3,k4,k5,k6,k7,k8⟩
    ·exact bi none 0 [] C (by simp[hJ]) (by simp[eq]) (by omega)
    ·simp only[j1,Nat.sub_zero]at C
     by_cases ax:len+g.length<=β.cap b
     ·
      obtain⟨M,V,bb,bc,bd⟩:=xl (pJ hx (fun p u=>ak p (hG _ u))) f (j x B.2).1 (j x B.2).2 am;have aO:=bd w rfl g.length (i5 _);rw[hT (by have:=(fN V).1;omega)]at aO;obtain⟨a,m,ae,g1,g2,g3,g4,g5⟩:=jG k2 0 len hlen;have bD:a=[]:=by have:=(fN g4).1;simpa using this
      subst bD;have ay:=(fN V).2;have av:m.flatten.length=len*aj:=by have:=(fN g2).2;rw[this];congr 1
      have aP:cs.toList=m.flatten++(ae.flatten++D):=by rw[k3,g1];simp
      have bO:=Nat.mul_le_mul_right aj ax;rw[js]at bO;have R:=Ju F ag o.type (off:=0) (sLen:=len) (sCap:=β.cap b) _ bc k1 aO (xu V) ax (by rw[ay,k4];omega);rw[<-S,<-C]at R;obtain⟨aX,bt⟩:∃r,r=cs.toList.drop (len*aj+M.flatten.length):=⟨_,rfl⟩
      have aU:cs.toList.take (0+len*aj)++M.flatten++cs.toList.drop (0+len*aj+M.flatten.length)=(m++M).flatten++aX:=by
       rw[jp,<-bt];congr 1;rw[aP,<-av];simp
      rw[aU]at R;have aE:¬ad (β.al b)/\¬ai (β.al b):=by
       unfold cz at k7;rw[if_neg (by simpa using aJ)]at k7;exact k7
      have aK:cj β H β (H.set b (.arr k (aw+1) aj (d.take len++g))):=by
       have:=LF (β:=β) (k':=k) (es':=d.take len++g) (al:=β.al b) (cap:=β.cap b) t
       rwa [Bd.WZ]at this
      have a6:∀J,ad J->(w.setRow (β.al b) ((m++M).flatten++aX).toArray).heap[J]?=w.heap[J]?:=fun J a2=>eb w _ J _ (fun a1=>aE.1 (a1▸a2));have hrefs:aV (aH H) (d.take len++g):=jF bv bb;have aL:=rp f t q (o':=.arr k (aw+1) aj (d.take len++g)) a4 (fun v h=>by simp only[Obj.has]at h⊢;omega) k1 (new:=((m++M).flatten++aX).toArray) aE aK
       (.inr ⟨_,O,m++M,aX,ec w _ _ _ O _ k1,by
        refine Row.mono (fun _ x=>x) a6 aK hrefs (lB.2 ⟨_,_,rfl,?_,V⟩);simpa using g2,by simp,by
        rw[<-k4];simp only[hM,hB,h2,ay,av,bt,List.length_drop,ce,k4];omega,by rw[hB,aS];exact ax,(fun aB=>(aR aB).elim),k7,(fun h=>(aJ h).elim),k8⟩) (aV.mono aQ _ hrefs)
      refine⟨_,_,_,β,ad,zm Y hc W R,.inl rfl,aL,?_,?_⟩
      ·simp only[az,bN,bR];refine⟨by simp[hr],fun J bh I=>?_⟩;unfold eS at I;rw[hA aA]at I;cases I;exact⟨by rw[hB,aS];omega,fun U=>(a4 U).elim,fun _=>by simp⟩
      ·simp only[aD];exact⟨_,hA aA,i5 _⟩
     ·obtain⟨N,aN,aW⟩:=holds k1 k2 k3;simp only[h7,j1]at aN aW;exact bi _ _ N C aN (aW w.drew _ _ rfl) (by omega)
 ·exact h.elim
end
section
variable{P:dz}{w:dq}{ad ai:Nat->Prop}{β:Bd}{H:Heap}
variable{o:Oper}{ρ:dg->AV}{base:Nat}
def iQ(bs:ByteArray):List Nat:=bs.data.toList.map (·.toNat)
theorem Cm:∀{a b:List UInt8},a.map (·.toNat)=b.map (·.toNat)->a=b
 |[],[],_=>rfl
 |[],_::_,h=>by simp at h
 |_::_,[],h=>by simp at h
 |x::a,y::b,h=>by
  simp at h;rw[j8.1 h.1,Cm h.2]
theorem bytes_beq(a b:ByteArray):(a.toList==b.toList)=(iQ a==iQ b):=by
 rw[fZ,fZ];unfold iQ
 by_cases h:a.data.toList=b.data.toList
 ·simp[h]
 ·have d:¬(a.data.toList.map (·.toNat)=b.data.toList.map (·.toNat)):=fun c=>h (Cm c)
  rw[beq_eq_false_iff_ne.2 h,beq_eq_false_iff_ne.2 d]
theorem I2:∀a b:List UInt8,ha a b=jc (a.map (·.toNat)) (b.map (·.toNat))
 |[],[]=>rfl
 |_::_,[]=>rfl
 |[],_::_=>rfl
 |x::a,y::b=>by
  simp only[ha,hD,jc,I2 a b];congr 1
  ·congr 1
   by_cases h:x=y
   ·simp[h]
   ·have:¬x.toNat=y.toNat:=fun c=>h (j8.1 c);rw[beq_eq_false_iff_ne.2 h,beq_eq_false_iff_ne.2 this]
theorem aFe{c:BinOp}{T j:dk}{x y:dg}{a b:List Nat}{K:PV->Prop}(g:o.op= .binOp c T x y j)(hx:ρ x= .p (.str a))(u:ρ y= .p (.str b))
 (h:qE c a b K)(ak:List (Nat×Obj)):∃v,K v/\bu P o ρ base {v:=.p v,ak}:=by
 have key:∀v,K v->(∀(w:dq)(ad:Nat->Prop)(s t:ByteArray),a=iQ s->b=iQ t->∃r,(he c s t).run P w=.ok r w/\aC P w ad v r)->∃v,K v/\bu P o ρ base {v:=.p v,ak}:=by
  intro v q n;refine⟨v,q,bu.same fun H w ad ai β C B i _=>?_⟩;have e:=(i x (by simp[g,g7])).1;have f:=(i y (by simp[g,g7])).1;rw[hx]at e;rw[u]at f;simp only[az,NL]at e f;obtain⟨s,e1,e2⟩:=e;obtain⟨t,e3,e4⟩:=f;obtain⟨r,z,A⟩:=n w ad s t e2 e4;refine⟨r,?_,by simpa only[az]using A,by simp[aD]⟩;simp only[dp,g,e1,e3];refine eE ?_;have l:(eqGuard c T x y (.string s) (.string t)).run P w=.ok () w:=by
   unfold eqGuard
   split<;>simp
  have k:(binOp c T (.string s) (.string t)).run P w=.ok r w:=by
   cases c<;>first|(simp[qE]at h;done)|exact z
  simp[l,k]
 have m:∀s t:ByteArray,a=iQ s->b=iQ t->ha s.toList t.toList=jc a b/\(s.toList==t.toList)=(a==b):=by
  intro s t hs d;rw[bytes_beq,<-hs,<-d,I2,fZ,fZ];exact⟨by rw[hs,d];rfl,rfl⟩
 cases c<;>simp only[qE]at h
 case add=>
  refine key _ h.2 fun w ad s t hs d=>⟨.string (s++t),run_string_add_sum w s t ?_,?_⟩
  ·have e:a.length=s.size:=by rw[hs];simp[iQ]
   have f:b.length=t.size:=by rw[d];simp[iQ]
   omega
  ·rw[NL];exact⟨_,rfl,by rw[hs,d];simp[iQ,ByteArray.data_append]⟩
 case eql|neq|lss|leq|gtr|geq=>
  refine key _ h fun w ad s t hs d=>?_;obtain⟨e1,e2⟩:=m s t hs d;exact⟨_,by simp only[he,e1,e2];rfl,by simp[aC]⟩
theorem Ub{T:dk}(h:rU P T=true):P.underlying T=some .bool:=by
 unfold rU at h
 split at h
 ·assumption
 ·simp at h
theorem IQ{T:dk}{a b:dl}{r:Bool}{w:dq}(h:(g9 T a b).run P w= .ok r w)(d:(∃x,a= .bool x)\/(∃x,a= .agg x)\/(∃p n c,a= .slice p n c)\/(∃m,a= .map m)\/a= .nilFunc\/(∃f x y,a= .func f x y)\/(∃p,a= .pointer p)\/a= .nilIface):
 (binOp .eql T a b).run P w=.ok (.bool r) w/\(binOp .neq T a b).run P w=.ok (.bool !r) w:=by
 rcases d with⟨x,rfl⟩|⟨x,rfl⟩|⟨p,n,c,rfl⟩|⟨m,rfl⟩|rfl|⟨f,x,y,rfl⟩|⟨p,rfl⟩|rfl
 all_goals (constructor<;>(unfold binOp;simp[h]))
def jl.isAgg:jl->Bool
 | .agg _=>true
 |_=>false
theorem W3{T:dk}{t:jl}(hk:kindOf P T=t)(a:t≠.bad)(w:dq):(isAgg T).run P w=.ok t.isAgg w:=by
 unfold kindOf at hk;cases hu:P.underlying T with
 |none=>rw[hu]at hk;simp at hk;exact(a hk.symm).elim
 |some d=>
  rw[hu]at hk;simp only[isAgg,hm,db hu,hj];cases d<;>simp only at hk<;>(split at hk<;>first|(subst hk;rfl)|exact(a hk.symm).elim)
theorem rW{F:dk}{v:PV}{pre c post:List dl}{cs:Array dl}(hk:kindOf P F=aM v)(b:aS P w ad v c)(e:cs.toList=pre++c++post):
 ∃x,(part F cs pre.length).run P w=.ok x w/\aC P w ad v x:=by
 obtain⟨j,i,f,g⟩:=zd (v:=.p v) (β:=⟨id,id⟩) (H:=[]) (w:=w) (ad:=ad) hk (by simpa only[bp]using b);have d:=(nV b).2;have a:=W3 hk d w;cases hs:aM v with
 |bad=>exact(d hs).elim
 |leaf=>
  rw[hs]at a;obtain⟨x,rfl,hx⟩:=(uk hs c).1 b;refine⟨x,?_,hx⟩;have:cs[pre.length]?=some x:=by rw[<-cc,e];simp
  simp[part,a,this,jl.isAgg]
 |agg u=>
  rw[hs]at a;refine⟨.agg c.toArray,?_,(xy hs c).1 b⟩;have h:(sizeOf F).run P w=.ok c.length w:=by simp[sizeOf,typeInfo,f,g]
  have:cs.extract pre.length (pre.length+c.length)=c.toArray:=by
   apply cb;rw[Array.toList_extract,e];simp[List.extract_eq_take_drop]
  simp[part,a,h,this,jl.isAgg]
theorem xw{n:Nat}{b:List Nat}{v:PV}{vs:List PV}{a:List (List dl)}(h:bd P w ad (n::b) (v::vs) a):∃c cs,a=c::cs/\aS P w ad v c/\c.length=n/\bd P w ad b vs cs:=by
 simpa only[bd]using h
theorem I0{eqF:dk->PV->PV->Option Bool}{d:Nat}(B:∀F a b r,eqF F a b=some r->kindOf P F=aM a->kindOf P F=aM b->∀x y,aC P w ad a x->aC P w ad b y->(g8 d F x y).run P w= .ok r w){X Y:Array dl}:
 ∀(fs:List ee)(l:List Nat)(j k:List PV)(r:Bool)(h m:List dl)(o p:List (List dl)),iX P eqF (fs.map (·.type)) j k=some r->fs.all (fun f=>f.name != "_")=true->
 (∀(i:Nat)(f:ee),fs[i]?=some f->f.offset=h.length+(l.take i).sum)->bd P w ad l j o->bd P w ad l k p->h.length=m.length->
 X.toList=h++o.flatten->Y.toList=m++p.flatten->(hb d X Y fs).run P w=.ok r w
 |[],l,j,k,r,h,m,o,p,e,_,_,_,_,_,_,_=>by
  cases j<;>cases k<;>simp[iX]at e;subst e;simp[hb]
 |f::fs,l,j,k,r,h,m,o,p,e,q,v,hx,L,A,t,hY=>by
  cases j with
  |nil=>simp[iX]at e
  |cons a j=>
   cases k with
   |nil=>simp[iX]at e
   |cons b k=>
    cases l with
    |nil=>simp[bd]at hx
    |cons n l=>
     simp only[hD,iX]at e
     split at e
     case isFalse=>simp at e
     rename_i hk
     split at e
     case h_2=>simp at e
     rename_i N O E G;simp at e;subst e;obtain⟨c,cs,rfl,hc,u,K⟩:=xw hx;obtain⟨c',s,rfl,H,I,M⟩:=xw L;simp only[List.all_cons,da,bne_iff_ne]at q;have z:f.offset=h.length:=by simpa using v 0 f (by simp)
     obtain⟨x,C,R⟩:=rW hk.1 hc (pre:=h) (post:=cs.flatten) (cs:=X) (by rw[t];simp);obtain⟨y,D,S⟩:=rW hk.2 H (pre:=m) (post:=s.flatten) (cs:=Y) (by rw[hY];simp);have e1:=B _ _ _ _ E hk.1 hk.2 x y R S;rw[<-z]at C;rw[<-A,<-z]at D;have Q:=I0 B fs l j k O (h++c) (m++c') cs s G q.2 (by
      intro i g J;have:=v (i+1) g (by simpa using J);rw[this,ii,iz,hB,u];omega) K M (by simp[A,u,I]) (by rw[t];simp) (by rw[hY];simp)
     simp only[hb,q.1,ne_eq,not_false_eq_true,if_true,hm,C,D,e1,hj];cases N with
     |false=>simp
     |true=>simpa using Q
theorem HL{eqF:dk->PV->PV->Option Bool}{d:Nat}{e:dk}(u:∀a b r,eqF e a b=some r->∀x y,aC P w ad a x->aC P w ad b y->(g8 d e x y).run P w= .ok r w){X Y:Array dl}:
 ∀(n k:Nat)(g h:List PV)(r:Bool)(i j:List dl)(l m:List (List dl)),iX P eqF (hC n e) g h=some r->
 bd P w ad (hC n (P.cellsOf e)) g l->bd P w ad (hC n (P.cellsOf e)) h m->i.length=k*P.cellsOf e->j.length=k*P.cellsOf e->
 X.toList=i++l.flatten->Y.toList=j++m.flatten->(hd d e (P.cellsOf e) X Y (List.range' k n)).run P w=.ok r w
 |0,k,g,h,r,i,j,l,m,f,_,_,_,_,_,_=>by
  cases g<;>cases h<;>simp[iX]at f;subst f;simp[hd]
 |n+1,k,g,h,r,i,j,l,m,f,hx,t,q,s,p,hY=>by
  cases g with
  |nil=>simp[hX,iX]at f
  |cons a g=>
   cases h with
   |nil=>simp[hX,iX]at f
   |cons b h=>
    rw[hX]at f hx t;simp only[iX]at f
    split at f
    case isFalse=>simp at f
    rename_i hk
    split at f
    case h_2=>simp at f
    rename_i H I A B;simp at f;subst f;obtain⟨c,cs,rfl,hc,D,F⟩:=xw hx;obtain⟨c',o,rfl,C,E,G⟩:=xw t;obtain⟨x,v,K⟩:=rW hk.1 hc (pre:=i) (post:=cs.flatten) (cs:=X) (by rw[p];simp);obtain⟨y,z,L⟩:=rW hk.2 C (pre:=j) (post:=o.flatten) (cs:=Y) (by rw[hY];simp);have e1:=u _ _ _ A x y K L;rw[q]at v;rw[s]at z;have J:=HL u n (k+1) g h I (i++c) (j++c') cs o B F G (by rw[hB,q,D,j2]) (by rw[hB,s,E,j2]) (by rw[p];simp) (by rw[hY];simp);rw[List.range'_succ];simp only[hd,hm,v,z,e1,hj];cases H with
    |false=>simp
    |true=>simpa using J
theorem zZ:∀(n:Nat)(T:dk)(v v':PV)(r:Bool),ic P n T v v'=some r->∀x y,aC P w ad v x->aC P w ad v' y->∀d,n<=d->(g8 d T x y).run P w=.ok r w
 |0,_,_,_,_,h,_,_,_,_,_,_=>by simp[ic]at h
 |n+1,T,v,v',r,h,x,y,hx,g,d,L=>by
  obtain⟨d,rfl⟩:∃e,d=e+1:=⟨d-1,by omega⟩
  unfold ic at h
  split at h
  ·rename_i a b c;simp at h;subst h;simp only[aC]at hx g;subst hx;subst g;simp[g8,db c]
  ·rename_i k0 k a M b c
   split at h
   case isFalse=>simp at h
   rename_i hk;subst hk;simp at h;subst h;simp only[aC]at hx g;subst hx;subst g;exact run_equalIn_int w d T k k0 a b c
  ·rename_i a b c;simp at h;subst h;simp only[aC]at hx g;obtain⟨s,rfl,hs⟩:=hx;obtain⟨t,rfl,H⟩:=g;rw[run_equalIn_string w d T s t c,bytes_beq,hs,H];rfl
  ·rename_i fs u A u' B c
   split at h
   case isFalse=>simp at h
   rename_i hc;obtain⟨hk,rfl,G,E⟩:=hc;simp only[aC]at hx g;obtain⟨l,j,k1,k2,rfl⟩:=hx;obtain⟨D,o,k3,k4,rfl⟩:=g;rw[k1]at k3;cases k3;obtain⟨K,D,s1,s2,q,z,N,I⟩:=wF (P:=P) (T:=T) (u:=u') (n:=fs.size) (by unfold fO;rw[hk,c]);rw[c]at s1;cases s1;rw[k1]at z;cases z;have C:P.fieldsOf T=fs:=by simp[Program.fieldsOf,c]
   rw[run_equalIn_struct w d T _ _ (by rw[C];exact c) G,C];refine I0 (eqF:=ic P n) (fun F a b r p _ _ x y hx g=>zZ n F a b r p x y hx g d (by omega)) fs.toList l A B r [] [] j o h E ?_ k2 k4 rfl (by simp) (by simp);intro i f hf;have hi:i<fs.size:=by
    have:=(hz.1 hf).1;simpa using this
   obtain⟨J,g1,g2,_⟩:=I i hi;rw[cc,g1]at hf;cases hf;simpa using g2
  ·rename_i m e u A u' B c
   split at h
   case isFalse=>simp at h
   rename_i hc;obtain⟨hk,rfl,hi⟩:=hc;simp only[aC]at hx g;obtain⟨l,j,k1,k2,rfl⟩:=hx;obtain⟨D,o,k3,k4,rfl⟩:=g;rw[k1]at k3;cases k3;obtain⟨e',s1,s2,q,z⟩:=uo (P:=P) (T:=T) (u:=u') (n:=m) (by unfold gV;rw[hk,c]);rw[c]at s1;cases s1;rw[k1]at q;cases q;obtain⟨i,hi⟩:=j5.1 hi;rw[run_equalIn_array w d _ _ c hi,List.range_eq_range'];exact HL (eqF:=ic P n) (fun a b r p x y hx g=>zZ n e a b r p x y hx g d (by omega)) m 0 A B r [] [] j o h k2 k4 (by simp) (by simp) (by simp) (by simp)
  ·simp at h
end
section
variable{P:dz}{w:dq}{ad ai:Nat->Prop}{β:Bd}{H:Heap}
variable{o:Oper}{ρ:dg->AV}{base:Nat}
theorem Es{d:BinOp}{T C:dk}{x y:dg}{r:Bool}{K:PV->Prop}{l:List (Nat×Obj)}(k:o.op= .binOp d T x y C)
 (D:d=.eql/\K (.bool r)\/d=.neq/\K (.bool !r))
 (I:∀(H:Heap)(w:dq)(ad ai:Nat->Prop)(β:Bd)(a b:dl),bU P w ad β H ai->(∀p∈l,H[p.1]?=some p.2)->az P w ad β H (ρ x) a->az P w ad β H (ρ y) b->(g9 T a b).run P w=.ok r w/\
  ((∃x,a=.bool x)\/(∃x,a=.agg x)\/(∃p n c,a=.slice p n c)\/(∃m,a=.map m)\/a=.nilFunc\/(∃f x y,a=.func f x y)\/(∃p,a=.pointer p)\/(a=.nilIface/\mC y=true))/\(∀u v,a=.agg u->b=.agg v->P.eqGuardType P.depth T=false)):
 ∃v,K v/\bu P o ρ base {v:=.p v,ak:=l}:=by
 have key:∀v,K v->(∀(w:dq)(a b:dl),(g9 T a b).run P w= .ok r w->((∃x,a= .bool x)\/(∃x,a= .agg x)\/(∃p n c,a= .slice p n c)\/(∃m,a= .map m)\/a= .nilFunc\/(∃f x y,a= .func f x y)\/(∃p,a= .pointer p)\/a= .nilIface)->
  ∃q,v=.bool q/\(binOp d T a b).run P w=.ok (.bool q) w)->∃v,K v/\bu P o ρ base {v:=.p v,ak:=l}:=by
  intro v J hq;refine⟨v,J,bu.same fun H w ad ai β s G t ak=>?_⟩;obtain⟨L,z,A⟩:=I H w ad ai β _ _ G ak (t x (by simp[k,g7])).1 (t y (by simp[k,g7])).1;obtain⟨q,rfl,F⟩:=hq w _ _ L (by rcases z with h|h|h|h|h|h|h|h<;>simp[h]);refine⟨.bool q,?_,by simp[az,aC],by simp[aD]⟩;simp only[dp,k];refine eE ?_;have E:(eqGuard d T x y (s x) (s y)).run P w=.ok () w:=by
   rcases z with⟨p,e⟩|⟨p,e⟩|⟨p,n,c,e⟩|⟨m,e⟩|e|⟨f,M,N,e⟩|⟨p,e⟩|⟨e,hc⟩
   all_goals rw[e]at A⊢
   case inr.inl=>
    cases hy:s y with
    |agg B=>
     exact run_eqGuard_agg w d T x y p B (A p B rfl hy)
    |_=>cases d<;>rfl
   case inr.inr.inr.inr.inr.inr.inr=>
    cases y<;>simp[mC]at hc;unfold eqGuard;cases d<;>simp<;>(split<;>simp_all)
   all_goals (cases d<;>rfl)
  simp[E,F]
 rcases D with⟨rfl,j⟩|⟨rfl,j⟩
 ·exact key _ j fun w a b g i=>⟨_,rfl,(IQ g i).1⟩
 ·exact key _ j fun w a b g i=>⟨_,rfl,(IQ g i).2⟩
theorem zV(T:dk)(a b:dl):∃d,9<=d+1/\g9 T a b=g8 (d+1) T a b:=⟨9999,by omega,rfl⟩
theorem J5{T:dk}{c:Bool}{b:AV}{k:vx}(h:dC P T c b=some k):
 (k=.ptr/\b=.p .dJ/\∃e,P.underlying T=some (.pointer e))\/(k=.slice/\b=.p .aW/\∃e,P.underlying T=some (.slice e))\/
 (k=.map/\b=.p .fC/\∃e f,P.underlying T=some (.map e f))\/(k=.func/\b=.p .ig/\∃e f g,P.underlying T=some (.func e f g))\/(k=.iface/\b=.p .fV/\c=true/\∃m,P.underlying T=some (.interface m)):=by
 unfold dC at h
 split at h<;>first
  |(split at h
    ·rename_i a;simp at h;subst h;simp[a]
    ·simp at h)
  |simp at h
theorem aEK{T:dk}{c:Bool}{H0:Heap}{a b:AV}{r:Bool}{k:vx}(hk:dC P T c b=some k)(h:cW H0 k a=some r){l s:dl}(ak:∀p∈dD H0 a,H[p.1]?=some p.2)(i:az P w ad β H a l)(C:az P w ad β H b s):
 (g9 T l s).run P w=.ok r w/\((∃x,l=.bool x)\/(∃x,l=.agg x)\/(∃p n c,l=.slice p n c)\/(∃m,l=.map m)\/l=.nilFunc\/(∃f x y,l=.func f x y)\/(∃p,l=.pointer p)\/(l=.nilIface/\c=true))/\(∀u v,l=.agg u->s=.agg v->P.eqGuardType P.depth T=false):=by
 obtain⟨d,_,I⟩:=zV T l s;rw[I];rcases J5 hk with⟨rfl,rfl,e,j⟩|⟨rfl,rfl,e,j⟩|⟨rfl,rfl,e,f,j⟩|⟨rfl,rfl,e,f,g,j⟩|⟨rfl,rfl,G,m,j⟩
 all_goals simp only[az,aC]at C
 all_goals subst C
 ·cases a<;>simp only[cW]at h
  case p v=>
   cases v<;>simp only at h<;>simp at h
   all_goals subst h
   all_goals simp only[az,aC]at i
   ·subst i;simp[g8,db j]
   ·obtain⟨_,_,_,_,_,_,rfl⟩:=i;simp[g8,db j]
  case ptr B path=>
   simp only[az,bN,bR]at i;obtain⟨_,_,_,_,rfl,_⟩:=i
   split at h
   ·simp at h;subst h;simp[g8,db j]
   ·simp at h
  all_goals simp at h
 ·cases a<;>simp only[cW]at h
  case p v=>
   cases v
   case seq o=>
    cases o with
    |nil=>simp at h
    |cons e o=>
     simp at h;subst h;simp only[az,aC]at i;rcases i with⟨J,_⟩|⟨_,_,_,_,_,_,_,_,_,_,_,rfl⟩
     ·cases J
     ·simp[g8,db j]
   all_goals simp only at h
   all_goals simp at h
   all_goals subst h
   all_goals simp only[az,aC]at i
   ·subst i;simp[g8,db j]
   ·obtain⟨_,_,_,_,_,_,_,_,_,_,_,_,rfl⟩:=i;simp[g8,db j]
  case sl B aw aj off len=>
   simp only[az,bN,bR]at i;simp only[dD]at ak
   split at h
   case h_2=>simp at h
   rename_i A M L o t;rw[t]at ak;have z:=ak _ (h3.2 rfl)
   split at h
   case isFalse=>simp at h
   rename_i hc;obtain⟨rfl,rfl⟩:=hc;obtain⟨_,E,F⟩:=i.2 A o z
   by_cases q:df A o
   ·rw[E q];have:r=true:=by simp at h;rw[<-h];simp[q.1,q.2]
    subst this;simp[g8,db j]
   ·rw[F q];have:r=false:=by
     simp at h;rw[<-h];unfold df at q
     by_cases D:A.gr=true
     ·have K:o≠[]:=fun h=>q ⟨D,h⟩;simp[K]
     ·simp[D]
    subst this;simp[g8,db j]
  all_goals simp at h
 ·cases a<;>simp only[cW]at h
  case p v=>
   cases v<;>simp only at h<;>simp at h
   all_goals subst h
   all_goals simp only[az,aC]at i
   ·subst i;simp[g8,db j]
   ·obtain⟨_,_,_,_,_,_,rfl⟩:=i;simp[g8,db j]
  case map B=>
   simp only[az,bN,bR]at i;simp only[dD]at ak
   split at h
   case h_2=>simp at h
   rename_i fz o t;rw[t]at ak;have z:=ak _ (h3.2 rfl);rw[i.2.1 ⟨_,z,trivial⟩];simp at h;subst h;simp[g8,db j]
  all_goals simp at h
 ·cases a<;>simp only[cW]at h
  case p v=>
   cases v<;>simp only at h<;>simp at h
   all_goals subst h
   all_goals simp only[az,aC]at i
   ·obtain⟨_,_,_,_,rfl⟩:=i;simp[g8,db j]
   ·subst i;simp[g8,db j]
  case func f first ib=>
   simp only[az]at i;obtain⟨_,_,_,_,rfl⟩:=i;simp at h;subst h;simp[g8,db j]
  all_goals simp at h
 ·cases a<;>simp only[cW]at h
  case p v=>
   cases v<;>simp only at h<;>simp at h
   all_goals subst h
   all_goals simp only[az,aC]at i
   subst i;simp[g8,db j,G]
  all_goals simp at h
theorem aE2{i:BinOp}{T s:dk}{x y:dg}{K:PV->Prop}{H0:Heap}(j:o.op= .binOp i T x y s)(h:ku P i T (mC y) H0 (ρ x) (ρ y) K):
 ∃v,K v/\bu P o ρ base {v:=.p v,ak:=dD H0 (ρ x)}:=by
 unfold ku at h
 split at h
 ·rename_i k a C b hx g;exact aE7 j hx g h.1 h.2 _
 ·rename_i a b hx g;exact aFe j hx g h _
 ·rename_i a b hx g;obtain⟨z,h⟩:=h;have m:=Ub z;refine Es (r:=a==b) j ?_ ?_
  ·split at h
   ·exact .inl ⟨rfl,h⟩
   ·exact .inr ⟨rfl,h⟩
   ·exact h.elim
  ·intro H w ad ai β n q e ak f c;rw[hx]at f;rw[g]at c;simp only[az,aC]at f c;subst f;subst c;obtain⟨d,_,l⟩:=zV T (.bool a) (.bool b);rw[l];exact⟨by simp[g8,db m],.inl ⟨_,rfl⟩,fun u v m _=>by cases m⟩
 ·rename_i u fs u' t hx g;obtain⟨B,h⟩:=h;obtain⟨r,e,c⟩:∃r,ic P 9 T (.st u fs) (.st u' t)=some r/\(i=.eql/\K (.bool r)\/i=.neq/\K (.bool !r)):=by
   split at h
   ·rename_i r e;exact⟨r,e,.inl ⟨rfl,h⟩⟩
   ·rename_i r e;exact⟨r,e,.inr ⟨rfl,h⟩⟩
   ·exact h.elim
  refine Es (r:=r) j c ?_;intro H w ad ai β n q _ ak f c;rw[hx]at f;rw[g]at c;simp only[az]at f c;refine⟨?_,?_,fun u v _ _=>by simpa[sV]using B⟩
  ·obtain⟨d,A,l⟩:=zV T n q;rw[l];exact zZ 9 T _ _ r e _ _ f c (d+1) A
  ·simp only[aC]at f;obtain⟨_,_,_,_,rfl⟩:=f;exact .inr (.inl ⟨_,rfl⟩)
 ·rename_i hx g
  split at h
  case h_2=>exact h.elim
  rename_i k hk;obtain⟨r,e,c⟩:∃r,cW H0 k (ρ x)=some r/\(i=.eql/\K (.bool r)\/i=.neq/\K (.bool !r)):=by
   split at h
   ·rename_i r e;exact⟨r,e,.inl ⟨rfl,h⟩⟩
   ·rename_i r e;exact⟨r,e,.inr ⟨rfl,h⟩⟩
   ·exact h.elim
  exact Es (r:=r) j c fun H w ad ai β n q _ ak f c=>aEK hk e ak f c
end
section
variable{P:dz}{w:dq}{ad ai:Nat->Prop}{β:Bd}{H:Heap}
variable{o:Oper}{ρ:dg->AV}{base:Nat}
theorem n7{c:dg->dl}:∀(l:List dg),(∀x∈l,az P w ad β H (ρ x) (c x)/\aD (aH H) (ρ x))->bB P w ad β H (l.map ρ) (l.map c)/\aV (aH H) (l.map ρ)
 |[],_=>by simp[bB,aV]
 |x::l,h=>by
  have a:=h x (by simp);have b:=n7 l (fun y d=>h y (by simp[d]));simp only[hD,bB,aV];exact⟨⟨_,_,rfl,a.1,b.1⟩,a.2,b.2⟩
theorem zQ{H0:Heap}:∀(l:List AV){j:List PV}{ak aJ:List (Nat×Obj)}{H:Heap}{ad:Nat->Prop}{vs:List dl},fI H0 l=some (j,ak,aJ)->bU P w ad β H ai->bB P w ad β H l vs->aV (aH H) l->
 (∀p∈ak,∃f fz t,p.2=.box fz t/\H[p.1]?=some (.box f t))->∃aF,bY P ai ad w β H aF w β (bf H aJ)/\bw P w aF j vs/\∀p∈aJ,p.1<H0.length/\p.2≠.hole
 |[],j,ak,aJ,H,ad,vs,h,i,e,_,_=>by
  simp[fI]at h;obtain⟨rfl,rfl,rfl⟩:=h;simp only[bB]at e;exact⟨ad,bY.refl i,by simpa[bw]using e,by simp⟩
 |a::l,j,ak,aJ,H,ad,vs,h,i,e,d,m=>by
  simp only[bB]at e;obtain⟨y,x,rfl,n,u⟩:=e;simp only[aV]at d;cases a with
  |p v=>
   simp only[fI]at h
   split at h
   case h_2=>simp at h
   rename_i G B E k;simp at h;obtain⟨rfl,rfl,rfl⟩:=h;obtain⟨aF,q1,o,q⟩:=zQ l k i u d.2 m;simp only[az]at n;exact⟨aF,q1,by simp only[bw];exact⟨y,x,rfl,aC.mono q1.bV (fun _ _=>rfl) _ _ n,o⟩,q⟩
  |ptr b path=>
   cases path with
   |cons _ _=>simp[fI]at h
   |nil=>
    simp only[fI]at h
    split at h
    case h_2=>simp at h
    rename_i fz t G B E C k;simp at h;obtain⟨rfl,rfl,rfl⟩:=h;obtain⟨f,J,K,e1,e2⟩:=m (b,.box fz (.p t)) (by simp);cases e1;have D:kW H (.ptr b [])=some (.cw t,H.set b (.box true (.p t))):=by
     simp only at e2;simp[kW,e2,kY]
    obtain⟨I,g,F⟩:=KK D i n d.1;have A:b<H.length:=(hz.1 e2).1;obtain⟨z,q1,o,q⟩:=zQ l k g.rel (bB.mono g.bV (fun _ _=>rfl) g.step _ _ d.2 u) (aV.mono g.fh _ d.2) (by
     intro p c;obtain⟨f2,r,t2,g1,g2⟩:=m p (by simp[c])
     by_cases s:b=p.1
     ·rw[<-s]at g2⊢;simp only at e2;rw[e2]at g2;cases g2;exact⟨true,r,_,g1,by rw[hA A]⟩
     ·exact⟨f2,r,t2,g1,by rw[hH s];exact g2⟩)
    refine⟨z,by simpa only[bf]using g.trans q1,?_,?_⟩
    ·simp only[bw];exact⟨y,x,rfl,aC.mono q1.bV (fun _ _=>rfl) _ _ F,o⟩
    ·intro p c;rcases hF.1 c with rfl|c
     ·exact⟨(hz.1 C).1,by simp⟩
     ·exact q p c
  |_=>simp[fI]at h
theorem Va{f:ed}{fi ca:Array dg}(E:o.op= .makeFunc (.func f) fi ca):
 (∀a b,eU (fi.toList.map ρ)=some a->eU (ca.toList.map ρ)=some b->bu P o ρ base {v:=.p (.func f a b)})/\
 bu P o ρ base {v:=.func f (fi.toList.map ρ) (ca.toList.map ρ)}/\
 (∀(H0:Heap) a b ak aJ,fI H0 (fi.toList.map ρ)=some (a,[],[])->fI H0 (ca.toList.map ρ)=some (b,ak,aJ)->bu P o ρ base {v:=.p (.func f a b),ak,aJ}/\(∀p∈ak,H0[p.1]?=some p.2)/\(∀p∈aJ,p.1<H0.length/\p.2≠.hole)):=by
 have g:∀x,x∈fi.toList\/x∈ca.toList->x∈o.op.operands:=by
  intro x hx;rw[E];simp only[g7,Array.mem_append];simpa using hx
 have u:∀(c:dg->dl)(w:dq),(dp c o).run P w=.ok (.value (.func (.func f) (fi.toList.map c).toArray (ca.toList.map c).toArray)) w:=by
  intro c w;simp only[dp,E];refine eE ?_;have j:(fi.toList.map c).toArray=fi.map c:=by apply cb;simp
  have k:(ca.toList.map c).toArray=ca.map c:=by apply cb;simp
  rw[j,k];simp[Instr.makeFunc]
 refine⟨?_,?_,?_⟩
 ·intro a b s m;refine bu.same fun H w ad ai β c z e _=>⟨_,u c w,?_,by simp[aD]⟩
  obtain⟨j,_⟩:=n7 fi.toList (fun x hx=>e x (g x (.inl hx)));obtain⟨k,_⟩:=n7 ca.toList (fun x hx=>e x (g x (.inr hx)));rw[me s]at j;rw[me m]at k;simp only[az,aC];exact⟨_,_,jw.1 j,jw.1 k,rfl⟩
 ·refine bu.same fun H w ad ai β c z e _=>⟨_,u c w,?_,?_⟩
  ·simp only[az];exact⟨_,_,(n7 fi.toList (fun x hx=>e x (g x (.inl hx)))).1,(n7 ca.toList (fun x hx=>e x (g x (.inr hx)))).1,rfl⟩
  ·simp only[aD];exact⟨(n7 fi.toList (fun x hx=>e x (g x (.inl hx)))).2,(n7 ca.toList (fun x hx=>e x (g x (.inr hx)))).2⟩
 ·intro H0 a b ak aJ s m;have D:∀p∈ak,H0[p.1]?=some p.2/\∃fz t,p.2=.box fz t:=by
   have:∀(l:List AV)(b:List PV)(ak aJ:List (Nat×Obj)),fI H0 l=some (b,ak,aJ)->∀p∈ak,H0[p.1]?=some p.2/\∃fz t,p.2=.box fz t:=by
    intro l
    induction l with
    |nil=>intro b ak aJ h;simp[fI]at h;obtain⟨rfl,rfl,rfl⟩:=h;simp
    |cons x l q=>
     intro b ak aJ h;cases x with
     |p v=>
      simp only[fI]at h
      split at h
      case h_2=>simp at h
      rename_i B n A i;simp at h;obtain⟨rfl,rfl,rfl⟩:=h;exact q _ _ _ i
     |ptr J path=>
      cases path with
      |cons _ _=>simp[fI]at h
      |nil=>
       simp only[fI]at h
       split at h
       case h_2=>simp at h
       rename_i fz t B n A y i;simp at h;obtain⟨rfl,rfl,rfl⟩:=h;intro p d;rcases hF.1 d with rfl|d
       ·exact⟨y,_,_,rfl⟩
       ·exact q _ _ _ i p d
     |_=>simp[fI]at h
   exact this _ _ _ _ m
  have K:∀p∈aJ,p.1<H0.length/\p.2≠.hole:=by
   have:∀(l:List AV)(b:List PV)(ak aJ:List (Nat×Obj)),fI H0 l=some (b,ak,aJ)->∀p∈aJ,p.1<H0.length/\p.2≠.hole:=by
    intro l
    induction l with
    |nil=>intro b ak aJ h;simp[fI]at h;obtain⟨rfl,rfl,rfl⟩:=h;simp
    |cons x l q=>
     intro b ak aJ h;cases x with
     |p v=>
      simp only[fI]at h
      split at h
      case h_2=>simp at h
      rename_i B n A i;simp at h;obtain⟨rfl,rfl,rfl⟩:=h;exact q _ _ _ i
     |ptr J path=>
      cases path with
      |cons _ _=>simp[fI]at h
      |nil=>
       simp only[fI]at h
       split at h
       case h_2=>simp at h
       rename_i fz t B n A y i;simp at h;obtain⟨rfl,rfl,rfl⟩:=h;intro p d;rcases hF.1 d with rfl|d
       ·exact⟨(hz.1 y).1,by simp⟩
       ·exact q _ _ _ i p d
     |_=>simp[fI]at h
   exact this _ _ _ _ m
  refine⟨?_,fun p d=>(D p d).1,K⟩;intro H w ad ai β c z e n _;obtain⟨j,N⟩:=n7 fi.toList (fun x hx=>e x (g x (.inl hx)));obtain⟨k,G⟩:=n7 ca.toList (fun x hx=>e x (g x (.inr hx)));obtain⟨O,r,L,_⟩:=zQ _ s z j N (by simp);simp only[bf]at r;obtain⟨I,q1,M,_⟩:=zQ _ m r.rel (bB.mono r.bV (fun _ _=>rfl) r.step _ _ G k) G (by
   intro p d;obtain⟨_,fz,t,F⟩:=D p d;have C:=n p d;rw[F]at C;exact⟨fz,fz,t,F,C⟩)
  simp only[newAt,hE];refine⟨_,_,w,β,I,u c w,.inl rfl,r.trans q1,?_,by simp[aD]⟩;simp only[az,aC];exact⟨_,_,bw.mono q1.bV (fun _ _=>rfl) _ _ L,M,rfl⟩
theorem Ct{x:dg}(d:o.op=.nilCheck x)(h:(∃b p,ρ x=.ptr b p)\/(∃b v e i p,ρ x=.b7 b v e i p)\/∃t,ρ x=.p (.cw t)):bu P o ρ base {v:=ρ x}:=by
 refine bu.same fun H w ad ai β f l k ak=>?_;have c:=k x (by simp[d,g7]);refine⟨f x,?_,c⟩;have j:∃a,f x=.pointer (some a):=by
  rcases h with⟨b,p,hx⟩|⟨b,v,e,i,p,hx⟩|⟨t,hx⟩
  ·have c:=c.1;rw[hx]at c;simp only[az,bN,bR]at c;obtain⟨_,_,_,_,h,_⟩:=c;exact⟨_,h⟩
  ·have c:=c.1;rw[hx]at c;simp only[az,bN,bR]at c;obtain⟨_,_,_,_,h,_⟩:=c;exact⟨_,h⟩
  ·have c:=c.1;rw[hx]at c;simp only[az,aC]at c;obtain⟨_,_,_,_,_,_,h⟩:=c;exact⟨_,h⟩
 obtain⟨a,g⟩:=j;simp[dp,d,g]
end
section
variable{P:dz}{w:dq}{ad ai:Nat->Prop}{β:Bd}{H:Heap}
variable{o:Oper}{ρ:dg->AV}{base:Nat}
open Go.MapKept
def kt:PV->Prop
 | .st _ _=>False
 |_=>True
theorem Eg{T:dk}{key:PV}(h:kt key)(k:PV):qU P T key k=kJ key k:=by
 cases key<;>first
  |exact h.elim
  |rfl
theorem Uk{T:dk}{key:PV}(h:kt key)(a:List (PV×PV)):mj P T a key=fT P T a key:=by
 cases key<;>first
  |exact h.elim
  |rfl
theorem zw{T:dk}{key:PV}{b:dl}(h:fA P T key=true)(c:kt key)(a:aC P w ad key b):∃d,P.underlying T=some d/\IsKey d b:=by
 unfold fA at h
 split at h
 ·split at h
  ·rename_i e;simp at h;subst h;simp only[aC]at a;subst a;exact⟨_,e,by simp[IsKey]⟩
  ·simp at h
 ·simp only[aC]at a;obtain⟨bs,rfl,_⟩:=a;exact⟨_,zl h,by simp[IsKey]⟩
 ·exact c.elim
 ·simp at h
theorem AX{T:dk}{d:em}(j:P.underlying T=some d){key g:PV}{i v':dl}{r:Bool}(h:fA P T key=true)(p:kt key)(c:kJ key g=some r)(e:aC P w ad key i)(f:aC P w ad g v'):
 gt d i v'=some r/\(r=true->i=v'):=by
 unfold fA at h
 split at h
 ·split at h
  ·rename_i k;simp at h;subst h;rw[j]at k;cases k;cases g<;>simp only[kJ]at c<;>try (simp at c;done)
   split at c
   ·rename_i hk;subst hk;simp at c;subst c;simp only[aC]at e f;subst e;subst f;simp[gt]
   ·simp at c
  ·simp at h
 ·rename_i hs;have:=zl h;rw[j]at this;cases this;cases g<;>simp only[kJ]at c<;>try (simp at c;done)
  simp at c;subst c;simp only[aC]at e f;obtain⟨a,rfl,e1⟩:=e;obtain⟨b,rfl,e2⟩:=f;subst e1;subst e2;have n:(ih (fun x:UInt8=>x.toNat) a.data.toList=ih (fun x:UInt8=>x.toNat) b.data.toList)↔a=b:=by
   constructor
   ·intro h;have:=Cm h;apply ByteArray.ext;apply cb;exact this
   ·intro h;rw[h]
  by_cases hc:a=b
  ·subst hc;simp[gt,g0]
  ·have l:¬(ih (fun x:UInt8=>x.toNat) a.data.toList=ih (fun x:UInt8=>x.toNat) b.data.toList):=fun h=>hc (n.1 h);have m:(a==b)=false:=by
    cases o:(a==b)with
    |false=>rfl
    |true=>exact(hc ((g0 a b).1 o)).elim
   simp[gt,l,m]
 ·exact p.elim
 ·simp at h
theorem DG{T:dk}{d:em}(o:P.underlying T=some d){key:PV}{g:dl}(hk:fA P T key=true)(m:kt key)(l:aC P w ad key g):∀(b:List (PV×PV))(a:List ea)(i:Nat)(r:Option PV),cA P w ad b a->fT P T b key=some r->
 (r=none/\gc d g a i=some none)\/∃v j e,r=some v/\gc d g a i=some (some (i+j,e.val))/\a[j]?=some e/\aC P w ad v e.val/\e.key=g/\
  (∀(x:PV)(k:dl),aC P w ad x k->cA P w ad (gz b key x) (a.modify j fun e=>{e with key:=g,val:=k}))
 |[],a,i,r,f,h=>by
  simp only[cA]at f;simp[fT]at h;subst f;subst h;exact .inl ⟨rfl,rfl⟩
 |(s,v')::b,a,i,r,f,h=>by
  simp only[cA]at f;obtain⟨e,rest,rfl,n,p,q⟩:=f;simp only[fT,Eg m]at h
  split at h
  ·rename_i c;simp at h;subst h;obtain⟨g1,g2⟩:=AX o hk m c l n;refine .inr ⟨v',0,e,rfl,by simp[gc,g1],rfl,p,(g2 rfl).symm,fun x k hx=>?_⟩;simp only[gz,c,if_true];simp only[cA];exact⟨_,rest,rfl,l,hx,q⟩
  ·rename_i c;obtain⟨g1,g2⟩:=AX o hk m c l n;rcases DG o hk m l b rest (i+1) r q h with⟨rfl,f1⟩|⟨v,j,e',rfl,f1,f2,f3,f4,f5⟩
   ·exact .inl ⟨rfl,by simp[gc,g1,f1]⟩
   ·refine .inr ⟨v,j+1,e',rfl,by simp[gc,g1,f1];omega,by simpa using f2,f3,f4,fun x k hx=>?_⟩;simp only[gz,c];rw[if_neg (by simp)];simp only[cA];exact⟨e,_,by simp[List.modify_succ_cons],n,p,f5 x k hx⟩
  ·simp at h
theorem Jr{X:Array dl}{y:dk->PV->PV->Option Bool}(e:Bool)(n:Nat):
 ∀(fs:List ee)(l:List Nat)(b:List PV)(r:Bool)(d:List dl)(o:List (List dl)),iX P y (fs.map (·.type)) b b=some r->(∀f∈fs,f.name≠ "_" /\uD P f.type=true)->
 (∀(i:Nat)(f:ee),fs[i]?=some f->f.offset=d.length+(l.take i).sum)->bd P w ad l b o->
 X.toList=d++o.flatten->(forIn fs j6 (fun f _=>if f.name≠ "_" then(do
  let x<-part f.type X f.offset
  gg e (n+1) f.type x
  pure (ForInStep.yield j6))else pure (ForInStep.yield j6):ee->PUnit->Sem (ForInStep PUnit))).run P w=.ok j6 w
 |[],l,b,r,d,o,_,_,_,_,_=>by simp
 |f::fs,l,b,r,d,o,h,s,t,hx,q=>by
  cases b with
  |nil=>simp[iX]at h
  |cons a b=>
   cases l with
   |nil=>simp[bd]at hx
   |cons m l=>
    simp only[hD,iX]at h
    split at h
    case isFalse=>simp at h
    rename_i hk
    split at h
    case h_2=>simp at h
    rename_i I F H z;obtain⟨c,cs,rfl,hc,A,E⟩:=xw hx;obtain⟨C,p⟩:=s f (by simp);have D:f.offset=d.length:=by simpa using t 0 f (by simp)
    obtain⟨x,u,J⟩:=rW hk.1 hc (pre:=d) (post:=cs.flatten) (cs:=X) (by rw[q];simp);rw[<-D]at u;have v:(gg e (n+1) f.type x).run P w=.ok () w:=by
     unfold uD at p;unfold gg
     split at p
     ·rename_i k j;simp[db j]
     ·rename_i j;simp[db j]
     ·rename_i j;simp[db j]
     ·cases p
    have G:=Jr e n fs l b F (d++c) cs z (fun f hf=>s f (by simp[hf])) (by
     intro i g B;have:=t (i+1) g (by simpa using B);rw[this,ii,iz,hB,A];omega) E (by rw[q];simp)
    rw[List.forIn_cons];simp only[C,ne_eq,not_false_eq_true,if_true,hm,u,v,hj,hn];exact G
theorem TN{T:dk}{cH:Array ee}{u:Nat}{fs:List PV}{g:dl}(b:P.underlying T=some (.struct cH))(j:cH.toList.all (fun f=>f.name != "_" &&uD P f.type)=true)(a:(ic P 9 T (.st u fs) (.st u fs)).isSome=true)(d:aC P w ad (.st u fs) g)(e:Bool):
 (gg e 10000 T g).run P w=.ok () w:=by
 obtain⟨r,a⟩:=j5.1 a;unfold ic at a;simp only[b]at a
 split at a
 case isFalse=>simp at a
 rename_i hc;obtain⟨hk,-,-,-⟩:=hc;simp only[aC]at d;obtain⟨l,c,k1,k2,rfl⟩:=d;obtain⟨o,p,s1,s2,q,h,s,k⟩:=wF (P:=P) (T:=T) (u:=u) (n:=cH.size) (by unfold fO;rw[hk,b]);rw[b]at s1;cases s1;rw[k1]at h;cases h;have key:=Jr (w:=w) (ad:=ad) (X:=c.flatten.toArray) e 9998 cH.toList l fs r [] c a (fun f hf=>by
  have:=ik.1 j f hf;simpa using this) (by
   intro i f hf;have hi:i<cH.size:=by
    have:=(hz.1 hf).1;simpa using this
   obtain⟨m,g1,g2,_⟩:=k i hi;rw[cc,g1]at hf;cases hf;simpa using g2) k2 (by simp)
 unfold gg;simp only[hm,db b,hj];rw[<-Array.forIn_toList];rw[key];simp
theorem Dc{T:dk}{u:Nat}{fs:List PV}{g:dl}(p:aC P w ad (.st u fs) g):∀(k:List (PV×PV))(f:List ea)(i:Nat)(r:Option PV),cA P w ad k f->fT P T k (.st u fs)=some r->
 (r=none/\(ge T g f i).run P w=.ok none w/\∀x n born,aC P w ad x n->cA P w ad (gz k (.st u fs) x) (f++[{key:=g,val:=n,born}]))\/∃(v:PV)(j:Nat)(e:ea),r=some v/\(ge T g f i).run P w=.ok (some (i+j,e.val)) w/\aC P w ad v e.val
 |[],f,i,r,m,h=>by
  simp only[cA]at m;simp[fT]at h;subst m;subst h;refine .inl ⟨rfl,by simp[ge],fun x n born hx=>?_⟩;simp only[gz,cA];exact⟨_,[],rfl,p,hx,rfl⟩
 |(y,v')::k,f,i,r,m,h=>by
  simp only[cA]at m;obtain⟨e,rest,rfl,s,t,z⟩:=m;simp only[fT]at h;have q:∀b,qU P T (.st u fs) y=some b->(g9 T g e.key).run P w=.ok b w/\kJ (.st u fs) y=some b:=by
   intro b l;simp only[qU]at l
   split at l
   ·rename_i a c A hc;cases a<;>cases c<;>simp at l<;>subst l<;>
    ·obtain⟨d,B,hq⟩:=zV T g e.key;rw[hq];exact⟨zZ 9 T _ _ _ A _ _ p s _ B,hc⟩
   ·simp at l
  split at h
  ·rename_i o;simp at h;subst h;obtain⟨g1,g2⟩:=q _ o;exact .inr ⟨v',0,e,rfl,by simp[ge,g1],t⟩
  ·rename_i o;obtain⟨g1,g2⟩:=q _ o;rcases Dc p k rest (i+1) r z h with⟨rfl,f1,f2⟩|⟨v,j,e',rfl,f1,f3⟩
   ·refine .inl ⟨rfl,by simp[ge,g1,f1],fun x n born hx=>?_⟩;simp only[gz,g2];rw[if_neg (by simp)];simp only[cA];exact⟨e,_,rfl,s,t,f2 x n born hx⟩
   ·refine .inr ⟨v,j+1,e',rfl,?_,f3⟩;simp[ge,g1,f1];omega
  ·simp at h
theorem DH{T:dk}{cH:Array ee}(c:P.underlying T=some (.struct cH)){b:dl}{a:List ea}{f:Option (Nat×dl)}(h:(ge T b a 0).run P w=.ok f w):(gi T b a).run P w=.ok f w:=by
 unfold gi;simp only[hm,db c,hj];cases a with
 |nil=>
  simp only[gc];simpa[ge]using h
 |cons e es=>
  have:gc (.struct cH) b (e::es) 0=none:=by simp[gc,gt]
  rw[this];exact h
theorem CK{T:dk}{key:PV}(h:fA P T key=true)(a:¬kt key):∃u fs cH,key= .st u fs/\P.underlying T=some (.struct cH)/\cH.toList.all (fun f=>f.name != "_" &&uD P f.type)=true/\(ic P 9 T (.st u fs) (.st u fs)).isSome=true:=by
 cases key<;>first
  |exact(a trivial).elim
  |skip
 rename_i u fs;simp only[fA]at h
 split at h
 ·rename_i cH b;rw[da]at h;exact⟨u,fs,cH,rfl,b,h.1,h.2⟩
 ·cases h
theorem Mm{T:dk}{key:PV}{g:dl}(hk:fA P T key=true)(f:aC P w ad key g){b:List (PV×PV)}{a:List ea}{r:Option PV}(l:cA P w ad b a)(h:fT P T b key=some r):
 (∀e,(gg e 10000 T g).run P w=.ok () w)/\
 ((r=none/\(gi T g a).run P w=.ok none w)\/∃(v:PV)(j:Nat)(e:ea),r=some v/\(gi T g a).run P w=.ok (some (j,e.val)) w/\aC P w ad v e.val):=by
 by_cases i:kt key
 ·obtain⟨d,c,o⟩:=zw hk i f;refine⟨fun e=>run_checkKey c o _ 9999,?_⟩;rcases DG c hk i f b a 0 r l h with⟨rfl,f1⟩|⟨v,j,e,rfl,f1,f2,f3,f4,_⟩
  ·exact .inl ⟨rfl,run_findKey c f1⟩
  ·exact .inr ⟨v,0+j,e,rfl,run_findKey c f1,f3⟩
 ·obtain⟨u,fs,cH,rfl,k,m,n⟩:=CK hk i;refine⟨fun e=>TN k m n f e,?_⟩;rcases Dc f b a 0 r l h with⟨rfl,f1,_⟩|⟨v,j,e,rfl,f1,f3⟩
  ·exact .inl ⟨rfl,DH k f1⟩
  ·exact .inr ⟨v,0+j,e,rfl,DH k f1,f3⟩
theorem Jj{T:dk}{key x:PV}{g i:dl}(d:aC P w ad key g)(hx:aC P w ad x i)(born:Nat):∀(a:List (PV×PV))(c:List ea),kt key->cA P w ad a c->fT P T a key=some none->cA P w ad (gz a key x) (c++[{key:=g,val:=i,born}])
 |[],c,_,b,_=>by
  simp only[cA]at b;subst b;simp only[gz,cA];exact⟨_,[],rfl,d,hx,rfl⟩
 |(n,v')::a,c,f,b,h=>by
  simp only[cA]at b;obtain⟨e,rest,rfl,j,k,l⟩:=b;simp only[fT,Eg f]at h
  split at h
  ·simp at h
  ·rename_i m;simp only[gz,m];rw[if_neg (by simp)];simp only[cA];exact⟨e,_,rfl,j,k,Jj (T:=T) d hx born a rest f l h⟩
  ·simp at h
def uV(ok:Bool)(z:PV):Option PV->PV
 |some v=>if ok then .aE [v,.bool true]else v
 |none=>if ok then .aE [z,.bool false]else z
theorem VC{T:dk}{c E:dk}{x i:dg}{ok:Bool}{key z:PV}{r:Option PV}{k:List (PV×PV)}(D:o.op= .lookup T x i ok)(g:jg P T=some (c,E))(G:cO P E=some z)(hk:fA P c key=true)(C:fT P c k key=some r)
 {ρc:dg->dl}(B:aC P w ad key (ρc i))(hx:(ρc x=.map none/\k=[])\/∃b a d,ρc x=.map (some b)/\w.heap[b]?=some (.map a d)/\cA P w ad k a.toList):
 ∃p,(dp ρc o).run P w=.ok (.value p) w/\aC P w ad (uV ok z r) p:=by
 have m:P.underlying T=some (.map c E):=by
  unfold jg at g
  split at g
  ·rename_i F;simp at g;rw[F,g.1,g.2]
  ·simp at g
 obtain⟨u,t,z2⟩:=MH G;obtain⟨a,s,n⟩:∃a:Array ea,((ρc x=.map none/\a=#[])\/∃b d,ρc x=.map (some b)/\w.heap[b]?=some (.map a d))/\cA P w ad k a.toList:=by
  rcases hx with⟨hx,rfl⟩|⟨b,a,d,hx,h,n⟩
  ·exact⟨#[],.inl ⟨hx,rfl⟩,by simp[cA]⟩
  ·exact⟨a,.inr ⟨b,d,hx,h⟩,n⟩
 obtain⟨l,y⟩:=Mm hk B n C
 have q:∀(f:Option (Nat×dl))(v:dl)(b:Bool),(gi c (ρc i) a.toList).run P w= .ok f w->(f=none/\v=u/\b=false\/∃j,f=some (j,v)/\b=true)->
  (dp ρc o).run P w=.ok (.value (if ok then .tuple #[v,.bool b]else v)) w:=by
  intro f v b hf A;simp only[dp,D];refine eE ?_;rcases A with⟨rfl,rfl,rfl⟩|⟨j,rfl,rfl⟩
  ·rcases s with⟨hx,rfl⟩|⟨b,d,hx,h⟩
   ·have hf:(gi c (ρc i) []).run P w=.ok none w:=hf;cases ok<;>simp[gm,db m,hx,l,hf,t]
   ·cases ok<;>simp[gm,db m,hx,gy h,l,hf,t]
  ·rcases s with⟨hx,rfl⟩|⟨b,d,hx,h⟩
   ·have hf:(gi c (ρc i) []).run P w=.ok (some (j,v)) w:=hf;cases ok<;>simp[gm,db m,hx,l,hf]
   ·cases ok<;>simp[gm,db m,hx,gy h,l,hf]
 rcases y with⟨rfl,f1⟩|⟨v,j,e,rfl,f1,f3⟩
 ·refine⟨_,q none u false f1 (.inl ⟨rfl,rfl,rfl⟩),?_⟩;cases ok with
  |true=>simp only[uV,if_true,aC,bw];exact⟨_,⟨_,_,rfl,z2 w ad,_,_,rfl,rfl,rfl⟩,rfl⟩
  |false=>simpa[uV]using z2 w ad
 ·refine⟨_,q _ e.val true f1 (.inr ⟨_,rfl,rfl⟩),?_⟩;cases ok with
  |true=>simp only[uV,if_true,aC,bw];exact⟨_,⟨_,_,rfl,f3,_,_,rfl,rfl,rfl⟩,rfl⟩
  |false=>simpa[uV]using f3
theorem wR{T:dk}{c E:dk}{x g:dg}{ok:Bool}{key z:PV}{r:Option PV}{es:List (PV×PV)}{ak:List (Nat×Obj)}(f:o.op= .lookup T x g ok)(n:jg P T=some (c,E))(u:cO P E=some z)(hi:ρ g= .p key)(hk:fA P c key=true)(q:fT P c es key=some r)
 (hx:(ρ x=.p .fC/\es=[])\/ρ x=.p (.fg es)\/∃b fz,ρ x=.map b/\(b,.map fz es)∈ak):
 bu P o ρ base {v:=.p (uV ok z r),ak}:=by
 refine bu.same fun H w ad ai β y t i ak=>?_;have a:=(i x (by simp[f,g7])).1;have e:=(i g (by simp[f,g7])).1;rw[hi]at e;simp only[az]at e;obtain⟨j,c1,c2⟩:=VC f n u hk q (ρc:=y) (w:=w) (ad:=ad) e (by
  rcases hx with⟨hx,rfl⟩|hx|⟨b,fz,hx,s⟩
  ·rw[hx]at a;simp only[az,aC]at a;exact .inl ⟨a,rfl⟩
  ·rw[hx]at a;simp only[az,aC]at a;obtain⟨b,d,clock,_,k,l,m⟩:=a;exact .inr ⟨b,d,clock,m,k,l⟩
  ·rw[hx]at a;simp only[az,bN,bR]at a;have h:=ak _ s;obtain⟨d,clock,k1,k2,_⟩:=t.cC b _ h;exact .inr ⟨_,d,clock,a.2.1 ⟨_,h,trivial⟩,k1,k2⟩)
 exact⟨j,c1,by simpa only[az]using c2,by simp[aD]⟩
theorem Vv{T:dk}(e:o.op=.makeMap T none):bu P o ρ base {v:=.map base,aU:=[.map false []]}:=by
 intro H w ad ai β i b j _ d;have a:H[base]?=some .hole:=by simpa using d 0 (by simp)
 have g:(dp i o).run P w=.ok (.value (.map (some w.heap.size))) {w with heap:=w.heap.push (.map #[] 0)}:=by
  simp only[dp,e];exact wD (by simp[Instr.makeMap])
 have f:=uh (cap:=0) b a (ob:=.map #[] 0) (o':=.map false [])
  ⟨#[],0,by simp[Bd.at],by simp[cA],by
   simp only[cz,Bd.at,if_true,c9,if_false];exact⟨fun h=>i6 _ (b.bV _ h),fun h=>i6 _ (b.ey _ h)⟩⟩ trivial
 refine⟨_,_,_,_,ad,g,.inl rfl,f,?_,?_⟩
 ·simp only[az,bN,bR,lY];exact⟨rfl,fun _=>by simp[Bd.at],fun⟨L,c⟩=>by rw[hA (hz.1 a).1]at c;cases c⟩
 ·simp only[aD,lY];exact⟨_,hA (hz.1 a).1,trivial⟩
theorem D7(f:bU P w ad β H ai){b:Nat}{o o':Obj}(a:H[b]?=some o)(i:o.live)(j:o'.live)(n:∀v,o.has v->o'.has v)(l:∀L,o≠ .loop L){ob:Go.Obj}
 (_hb:β.al b<w.heap.size)(e:¬ad (β.al b)/\¬ai (β.al b))(aK:cj β H β (H.set b o'))
 (p:fk P {w with heap:=w.heap.setIfInBounds (β.al b) ob} ad β (H.set b o') ai b o')(q:o'.refs (aH (H.set b o'))):
 bY P ai ad w β H ad {w with heap:=w.heap.setIfInBounds (β.al b) ob} β (H.set b o'):=by
 refine bY.set f (hz.1 a).1 (fun _ _=>⟨rfl,rfl⟩) (fun _ x=>x) (fun _ x=>.inl x) (fun k hk=>by simpa using f.bV k hk) (by simp)
  (fun k hk _=>?_) (fun _=>.inr ⟨rfl,⟨o,a,i⟩,.inr e.1,e.2⟩) aK p q (fun r v c g=>by rw[a]at c;cases c;exact n v g) (fun L d=>by rw[a]at d;cases d;exact(l L rfl).elim)
 have m:k≠β.al b:=hk.resolve_right (fun h=>h j);simp[Ne.symm m]
theorem IW{T t E:dk}{m k x:dg}{b:Nat}{key v:PV}{a:List (PV×PV)}{r:Option PV}(g:o.op= .mapUpdate T m k x\/o.op= .insert T m k x)(z:jg P T=some (t,E))(ab:ρ m= .map b)(hk:ρ k= .p key)(hx:ρ x= .p v)
 (hf:fA P t key=true)(f:mj P t a key=some r):bu P o ρ base {v:=.p (.aE []),ak:=[(b,.map false a)],aJ:=[(b,.map false (gz a key v))]}:=by
 have N:P.underlying T=some (.map t E):=by
  unfold jg at z
  split at z
  ·rename_i O;simp at z;rw[O,z.1,z.2]
  ·simp at z
 intro H w ad ai β c U Q ak _;have G:H[b]?=some (.map false a):=by simpa using ak
 have M:m∈o.op.operands/\k∈o.op.operands/\x∈o.op.operands:=by
  rcases g with g|g<;>simp[g,g7]
 have l:=(Q m M.1).1;have q:=(Q k M.2.1).1;have B:=(Q x M.2.2).1;rw[ab]at l;rw[hk]at q;rw[hx]at B;simp only[az,bN,bR]at l q B;have l:=l.2.1 ⟨_,G,trivial⟩;obtain⟨i,clock,k1,k2,k3⟩:=U.cC b _ G;have S:¬ad (β.al b)/\¬ai (β.al b):=by
  unfold cz at k3;rw[if_neg (by simp)]at k3;exact k3
 have F:fT P t a key=some r:=by
  by_cases s:kt key
  ·rw[<-Uk s];exact f
  ·obtain⟨u,fs,cH,rfl,_⟩:=CK hf s;simp only[mj]at f
   split at f
   ·rename_i hq;rw[hq];exact f
   ·cases f
 have K:=(Mm hf q k2 F).1 false;have R:β.al b<w.heap.size:=(b5.1 k1).1;have aK:cj β H β (H.set b (.map false (gz a key v))):=pZ G (.inr (.inr (.inl ⟨_,_,_,_,rfl,rfl⟩)))
 have J:∀(y:Array ea)(A:Nat),(gj T (c m) (c k) (c x)).run P w= .ok () {w with heap:=w.heap.setIfInBounds (β.al b) (.map y A)}->cA P w ad (gz a key v) y.toList->
  ∃n I w' aI aF,(dp c o).run P w=.ok n w'/\(n=.value I\/n=.skip/\I=undef)/\
  bY P ai ad w β H aF w' aI (bf H ([(b,.map false (gz a key v))]++newAt base []))/\az P w' aF aI (bf H ([(b,.map false (gz a key v))]++newAt base [])) (.p (.aE [])) I/\
  aD (aH (bf H ([(b,.map false (gz a key v))]++newAt base []))) (.p (.aE [])):=by
  intro y A af ac;have X:(dp c o).run P w=.ok .skip {w with heap:=w.heap.setIfInBounds (β.al b) (.map y A)}:=by
   rcases g with g|g<;>simp[dp,g,af]
  have ag:∀D,ad D->({w with heap:=w.heap.setIfInBounds (β.al b) (.map y A)}:dq).heap[D]?=w.heap[D]?:=by
   intro D aa;have:β.al b≠D:=fun W=>S.1 (W▸aa);simp[this]
  refine⟨_,_,_,β,ad,X,.inr ⟨rfl,rfl⟩,?_,by simp[az,aC,bw,undef],by simp[aD]⟩;simp only[newAt,hE,bf];exact D7 (o':=.map false (gz a key v)) U G trivial trivial (fun _ h=>h) (fun _ h=>by cases h) R S aK ⟨y,A,by simp[R],cA.mono (fun _ x=>x) ag _ _ ac,k3⟩ trivial
 by_cases s:kt key
 case neg=>
  obtain⟨u,fs,cH,rfl,O,_,_⟩:=CK hf s;have ae:r=none:=by
   simp only[mj]at f
   split at f
   ·simpa using f.symm
   ·cases f
  subst ae;rcases Dc q a i.toList 0 none k2 F with⟨_,f1,f2⟩|⟨v',j,e,V,_⟩
  ·have C:=DH O f1;refine J (i.push {key:=c k,val:=c x,born:=clock}) (clock+1) ?_ ?_
   ·rw[l];simp only[gj,hm,db N,hj,gy k1,K,C,run_setObj_map _ k1]
   ·rw[cv];exact f2 v (c x) clock B
  ·cases V
 obtain⟨d,L,Y⟩:=zw hf s q;rcases DG L hf s q a i.toList 0 r k2 F with⟨rfl,f1⟩|⟨v',j,e,rfl,f1,f2,f3,f4,f5⟩
 ·have C:=run_findKey (w:=w) L f1;refine J (i.push {key:=c k,val:=c x,born:=clock}) (clock+1) ?_ ?_
  ·rw[l];simp only[gj,hm,db N,hj,gy k1,K,C,run_setObj_map _ k1]
  ·rw[cv];exact Jj (T:=t) q B clock a i.toList s k2 F
 ·have C:=run_findKey (w:=w) L f1;have Z:i[j]?=some e:=by simpa using f2
  refine J (i.modify j fun e=>{e with key:=c k,val:=c x}) clock ?_ ?_
  ·rw[l];simp only[gj,hm,db N,hj,gy k1,K,C];simp only[jp,Z,Option.map_some,Option.getD_some,f4,run_keyThatStays Y,hj,run_setObj_map _ k1]
  ·rw[Array.toList_modify];exact f5 v (c x) B
theorem yT{v:PV}:nL v=true->kt v:=by
 cases v<;>simp[nL,kt]
theorem S4{b:Nat}{o o':Obj}(e:H[b]?=some o)(i:o.vV)(d:o'.vV):cj β H β (H.set b o'):=by
 have g:b<H.length:=(hz.1 e).1;have a:∀x,x≠b->(H.set b o')[x]?=H[x]?:=fun x hx=>hH (Ne.symm hx);have c:(H.set b o')[b]?=some o':=hA g;refine⟨?_,?_,?_,?_,?_⟩
 ·rintro x _ ⟨fz,t,h⟩;refine⟨?_,rfl⟩
  by_cases hx:x=b
  ·subst hx;rw[c]at h;cases h;exact d.elim
  ·rw[a x hx]at h;exact⟨fz,t,h⟩
 ·rintro x _ ⟨fz,t,h⟩;refine⟨?_,rfl⟩
  by_cases hx:x=b
  ·subst hx;rw[c]at h;cases h;exact d.elim
  ·rw[a x hx]at h;exact⟨fz,t,h⟩
 ·rintro x _ ⟨l,h,j⟩;refine⟨?_,rfl⟩
  by_cases hx:x=b
  ·subst hx;exact⟨o,e,i⟩
  ·rw[a x hx]at h;exact⟨l,h,j⟩
 ·intro x aw aj k f _ h
  by_cases hx:x=b
  ·subst hx;unfold eS at h;rw[c]at h;cases h;exact d.elim
  ·unfold eS at h⊢;rw[a x hx]at h;exact⟨k,f,h,i5 _,Iff.rfl,fun _=>⟨rfl,rfl⟩⟩
 ·rintro x _ ⟨L,h⟩;refine⟨?_,rfl⟩
  by_cases hx:x=b
  ·subst hx;rw[c]at h;cases h;exact d.elim
  ·rw[a x hx]at h;exact⟨L,h⟩
theorem HQ:∀{b:List (PV×PV)}{a:List ea},cA P w ad b a->bw P w ad (b.map (·.1)) (a.map (·.key))/\bB P w ad β H (b.map fun e=>.p e.2) (a.map (·.val))
 |[],a,h=>by
  simp only[cA]at h;subst h;simp[bw,bB]
 |(k,v)::r,a,h=>by
  simp only[cA]at h;obtain⟨e,rest,rfl,c,d,f⟩:=h;obtain⟨i1,i2⟩:=HQ f;simp only[hD,bw,bB];exact⟨⟨_,_,rfl,c,i1⟩,⟨_,_,rfl,by simpa only[az]using d,i2⟩⟩
theorem S6{b:Nat}{d:Obj}{ks:List PV}{vs:List AV}(h:bU P w ad β H ai)(g:H[b]?=some d)(a:tM d=some (ks,vs)):
 d.vV/\(∃c f,w.heap[β.al b]?=some (.map c f)/\bw P w ad ks (c.toList.map (·.key))/\bB P w ad β H vs (c.toList.map (·.val))/\cz ad β ai false b)/\aV (aH H) vs:=by
 cases d<;>simp only[tM]at a<;>try (cases a;done)
 case map fz es=>
  cases fz
  case true=>simp at a
  simp only[Option.some.injEq,Prod.mk.injEq]at a;obtain⟨rfl,rfl⟩:=a;obtain⟨c,f,k1,k2,k3⟩:=h.cC b _ g;obtain⟨i1,i2⟩:=HQ (β:=β) (H:=H) k2;exact⟨trivial,⟨c,f,k1,i1,i2,k3⟩,cJ.2 fun v i=>by obtain⟨e,_,rfl⟩:=iL.1 i;trivial⟩
 case dx j k=>
  simp only[Option.some.injEq,Prod.mk.injEq]at a;obtain⟨rfl,rfl⟩:=a;exact⟨trivial,h.cC b _ g,h.refs b _ g⟩
theorem B5{T:dk}{d:em}(n:P.underlying T=some d){key:PV}{o:dl}(hk:fA P T key=true)(g:kt key)(m:aC P w ad key o):∀(ks:List PV)(vs:List AV)(c:List ea)(i:Nat)(r:Option AV),bw P w ad ks (c.map (·.key))->bB P w ad β H vs (c.map (·.val))->lA P T ks vs key=some r->
 (r=none/\gc d o c i=some none)\/∃(v:AV)(j:Nat)(e:ea),r=some v/\gc d o c i=some (some (i+j,e.val))/\az P w ad β H v e.val/\v∈vs
 |[],vs,c,i,r,f,k,h=>by
  cases c with
  |nil=>
   cases vs with
   |nil=>simp[lA]at h;subst h;exact .inl ⟨rfl,rfl⟩
   |cons a b=>simp[lA]at h
  |cons a b=>simp[bw]at f
 |u::ks,vs,c,i,r,f,k,h=>by
  cases c with
  |nil=>simp[bw]at f
  |cons e rest=>
   cases vs with
   |nil=>simp[bB]at k
   |cons v' vs=>
    simp only[hD,bw,bB,List.cons.injEq]at f k;obtain⟨_,_,⟨rfl,rfl⟩,p,q⟩:=f;obtain⟨_,_,⟨rfl,rfl⟩,s,t⟩:=k;simp only[lA,Eg g]at h
    split at h
    ·rename_i l;simp at h;subst h;obtain⟨g1,g2⟩:=AX n hk g l m p;exact .inr ⟨v',0,e,rfl,by simp[gc,g1],s,List.mem_cons_self⟩
    ·rename_i l;obtain⟨g1,g2⟩:=AX n hk g l m p;rcases B5 n hk g m ks vs rest (i+1) r q t h with⟨rfl,f1⟩|⟨v,j,e',rfl,f1,f3,f4⟩
     ·exact .inl ⟨rfl,by simp[gc,g1,f1]⟩
     ·exact .inr ⟨v,j+1,e',rfl,by simp[gc,g1,f1];omega,f3,hG _ f4⟩
    ·simp at h
def rk(ok:Bool)(z:PV):Option AV->AV
 |some v=>if ok then .aE [v,.p (.bool true)]else v
 |none=>.p (if ok then .aE [z,.bool false]else z)
theorem HM{T:dk}{f E:dk}{x k:dg}{ok:Bool}{key z:PV}{r:Option AV}{b:Nat}{ks:List PV}{vs:List AV}(i:o.op= .lookup T x k ok)(c:jg P T=some (f,E))(D:cO P E=some z)(hi:ρ k= .p key)(hk:fA P f key=true)(n:nL key=true)(B:lA P f ks vs key=some r)
 (hx:ρ x=.map b):bu P o ρ base {v:=rk ok z r,ak:=[(b,.dx ks vs)]}:=by
 refine bu.same fun H w ad ai β G s t ak=>?_;have a:=(t x (by simp[i,g7])).1;have g:=(t k (by simp[i,g7])).1;rw[hi]at g;simp only[az]at g;rw[hx]at a;simp only[az,bN,bR]at a;have l:H[b]?=some (.dx ks vs):=by simpa using ak
 obtain⟨y,clock,k1,k2,k3,_⟩:=s.cC b _ l;have hrefs:aV (aH H) vs:=s.refs b _ l;have a:=a.2.1 ⟨_,l,trivial⟩;have q:P.underlying T=some (.map f E):=by
  unfold jg at c
  split at c
  ·rename_i C;simp at c;rw[C,c.1,c.2]
  ·simp at c
 obtain⟨u,F,z2⟩:=MH D;obtain⟨d,h,A⟩:=zw hk (yT n) g;have m:∀e,(gg e 10000 f (G k)).run P w=.ok () w:=fun e=>run_checkKey h A _ 9999;rcases B5 h hk (yT n) g ks vs y.toList 0 r k2 k3 B with⟨rfl,f1⟩|⟨v,j,e,rfl,f1,f3,f4⟩
 ·have hf:=run_findKey (w:=w) h f1;refine⟨if ok then .tuple #[u,.bool false]else u,?_,?_,by cases ok<;>simp[rk,aD]⟩
  ·simp only[dp,i];refine eE ?_;cases ok<;>simp[gm,db q,a,gy k1,m,hf,F]
  ·cases ok with
   |true=>simp only[rk,if_true,az,aC,bw];exact⟨_,⟨_,_,rfl,z2 w ad,_,_,rfl,rfl,rfl⟩,rfl⟩
   |false=>simpa[rk,az]using z2 w ad
 ·have hf:=run_findKey (w:=w) h f1;refine⟨if ok then .tuple #[e.val,.bool true]else e.val,?_,?_,?_⟩
  ·simp only[dp,i];refine eE ?_;cases ok<;>simp[gm,db q,a,gy k1,m,hf]
  ·cases ok with
   |true=>simp only[rk,if_true,az,bB,aC];exact⟨_,⟨_,_,rfl,f3,_,_,rfl,rfl,rfl⟩,rfl⟩
   |false=>simpa[rk]using f3
  ·have:=cJ.1 hrefs v f4;cases ok<;>simp[rk,aD,aV,this]
theorem HP{w:dq}{ad:Nat->Prop}{k:PV}{x:dl}:∀{a:List PV}{l:List dl},bw P w ad a l->aC P w ad k x->bw P w ad (a++[k]) (l++[x])
 |[],l,h,hx=>by simp only[bw]at h;subst h;simp only[h6,bw];exact⟨_,_,rfl,hx,rfl⟩
 |v::a,l,h,hx=>by
  simp only[bw]at h;obtain⟨y,d,rfl,b,c⟩:=h;simp only[List.cons_append,bw];exact⟨_,_,rfl,b,HP c hx⟩
theorem yS{T i E:dk}{m k x:dg}{b:Nat}{key:PV}{u:Obj}{ks:List PV}{vs:List AV}(c:o.op= .mapUpdate T m k x\/o.op= .insert T m k x)(g:jg P T=some (i,E))(aa:ρ m= .map b)(hk:ρ k= .p key)
 (hf:fA P i key=true)(O:tM u=some (ks,vs))(F:nL key=true)(Z:lA P i ks vs key=some none):bu P o ρ base {v:=.p (.aE []),ak:=[(b,u)],aJ:=[(b,.dx (ks++[key]) (vs++[ρ x]))]}:=by
 have ab:P.underlying T=some (.map i E):=by
  unfold jg at g
  split at g
  ·rename_i ae;simp at g;rw[ae,g.1,g.2]
  ·simp at g
 intro H w ad ai β a G B ak _;have s:H[b]?=some u:=by simpa using ak
 have A:m∈o.op.operands/\k∈o.op.operands/\x∈o.op.operands:=by
  rcases c with c|c<;>simp[c,g7]
 have n:=(B m A.1).1;have q:=(B k A.2.1).1;obtain⟨M,N⟩:=B x A.2.2;rw[aa]at n;rw[hk]at q;simp only[az,bN,bR]at n q;obtain⟨r,⟨l,clock,k1,k2,k3,k4⟩,af⟩:=S6 G s O;have n:=n.2.1 ⟨_,s,r⟩;have D:¬ad (β.al b)/\¬ai (β.al b):=by
  unfold cz at k4;rw[if_neg (by simp)]at k4;exact k4
 obtain⟨d,z,W⟩:=zw hf (yT F) q;have R:(gg false 10000 i (a k)).run P w=.ok () w:=run_checkKey z W _ 9999;have C:β.al b<w.heap.size:=(b5.1 k1).1;have Q:b<H.length:=(hz.1 s).1;have aK:cj β H β (H.set b (.dx (ks++[key]) (vs++[ρ x]))):=S4 s r trivial;rcases B5 z hf (yT F) q ks vs l.toList 0 none k2 k3 Z with⟨_,f1⟩|⟨v',j,e,L,_⟩
 case inr=>cases L
 have V:=run_findKey (w:=w) z f1;have ac:(gj T (a m) (a k) (a x)).run P w=.ok () {w with heap:=w.heap.setIfInBounds (β.al b) (.map (l.push {key:=a k,val:=a x,born:=clock}) (clock+1))}:=by
  rw[n];simp only[gj,hm,db ab,hj,gy k1,R,V,run_setObj_map _ k1]
 have U:(dp a o).run P w=.ok .skip {w with heap:=w.heap.setIfInBounds (β.al b) (.map (l.push {key:=a k,val:=a x,born:=clock}) (clock+1))}:=by
  rcases c with c|c<;>simp[dp,c,ac]
 have I:∀t,ad t->({w with heap:=w.heap.setIfInBounds (β.al b) (.map (l.push {key:=a k,val:=a x,born:=clock}) (clock+1))}:dq).heap[t]?=w.heap[t]?:=by
  intro t Y;have:β.al b≠t:=fun S=>D.1 (S▸Y);simp[this]
 have X:∀y,aH H y->aH (H.set b (.dx (ks++[key]) (vs++[ρ x]))) y:=by
  rintro⟨y,v⟩ ⟨ah,ag,f⟩
  by_cases K:b=y
  ·subst K;exact⟨.dx (ks++[key]) (vs++[ρ x]),by simp only;rw[hA Q],trivial⟩
  ·exact⟨ah,by simp only;rw[hH K];exact ag,f⟩
 have J:aV (aH H) (vs++[ρ x]):=cJ.2 fun v f=>by
  rcases ip.1 f with f|f
  ·exact cJ.1 af v f
  ·rw[h3.1 f];exact N
 refine⟨_,_,_,β,ad,U,.inr ⟨rfl,rfl⟩,?_,by simp[az,aC,bw,undef],by simp[aD]⟩;simp only[newAt,hE,bf];refine D7 (o':=.dx (ks++[key]) (vs++[ρ x])) G s (by cases u<;>first|trivial|exact r.elim) trivial (fun _ _=>trivial) (fun _ h=>by rw[h]at r;exact r.elim) C D aK ⟨l.push {key:=a k,val:=a x,born:=clock},clock+1,by simp[C],?_,?_,k4⟩ (aV.mono X _ J)
 ·rw[cv,hL];exact bw.mono (fun _ x=>x) I _ _ (HP k2 q)
 ·rw[cv,hL];refine bB.mono (fun _ x=>x) I aK _ _ J (pR k3 ?_);simp only[hD,hU,bB];exact⟨_,_,rfl,M,rfl⟩
theorem AY{c:dk}{b:Nat}{key:PV}{x:AV}{a:Obj}{K:aY->Prop}(h:pK P c b key x a K):∃ks vs,tM a=some (ks,vs)/\nL key=true/\lA P c ks vs key=some none/\K {v:=.p (.aE []),ak:=[(b,a)],aJ:=[(b,.dx (ks++[key]) (vs++[x]))]}:=by
 unfold pK at h
 split at h
 ·rename_i ks vs d;exact⟨ks,vs,d,h⟩
 ·exact h.elim
end
section
variable{P:dz}{w:dq}{ad ai:Nat->Prop}{β:Bd}{H:Heap}
variable{o:Oper}{ρ:dg->AV}{base:Nat}
theorem UB(bs:ByteArray):gp (iQ bs)=bs:=by
 unfold gp iQ;apply ByteArray.ext;apply cb;simp only[hV];have:(j9∘fun x:UInt8=>x.toNat)=id:=by funext x;simp
 rw[this];simp
theorem XL{T:dk}{x:dg}{s:List Nat}(d:o.op=.range T x)(hx:ρ x=.p (.str s))(e:il P T=true):bu P o ρ base {v:=.ptr base [],aU:=[.dA s 0]}:=by
 intro H w ad ai β k b j _ f;have c:H[base]?=some .hole:=by simpa using f 0 (by simp)
 have a:=(j x (by simp[d,g7])).1;rw[hx]at a;simp only[az,aC]at a;obtain⟨bs,e1,e2⟩:=a;have i:(dp k o).run P w=.ok (.value (.pointer (some ⟨w.heap.size,0,none⟩))) {w with heap:=w.heap.push (.stringIter bs 0)}:=by
  simp only[dp,d,e1];exact wD (by simp[Instr.range,db (zl e)])
 have g:=uh (cap:=0) b c (ob:=.stringIter bs 0) (o':=.dA s 0)
  ⟨bs,by simp[Bd.at],e2,by
   simp only[cz,Bd.at,if_true,c9,if_false];exact⟨fun h=>i6 _ (b.bV _ h),fun h=>i6 _ (b.ey _ h)⟩⟩ trivial
 refine⟨_,_,_,_,ad,i,.inl rfl,g,?_,?_⟩
 ·simp only[az,bN,bR,lY];exact⟨rfl,_,_,0,rfl,rfl,fun _=>by simp[Bd.at]⟩
 ·simp only[aD,lY];exact⟨_,hA (hz.1 c).1,trivial⟩
theorem aFa{it:dg}{b:Nat}{s:List Nat}{pos:Nat}(g:o.op= .next it true)(hx:ρ it= .ptr b []):
 (pos<s.length->bu P o ρ base {v:=.p (.aE [.bool true,.int .i64 pos,.int .i32 (hp (gp s) pos).1]),ak:=[(b,.dA s pos)],aJ:=[(b,.dA s (pos+(hp (gp s) pos).2))]})/\
 (¬pos<s.length->bu P o ρ base {v:=.p (.aE [.bool false]),ak:=[(b,.dA s pos)]}):=by
 have key:∀{H:Heap}{w:dq}{ad ai:Nat->Prop}{β:Bd}{e:dg->dl},bU P w ad β H ai->(∀x∈o.op.operands,az P w ad β H (ρ x) (e x)/\aD (aH H) (ρ x))->H[b]?=some (.dA s pos)->
  e it=.pointer (some ⟨β.al b,0,none⟩)/\∃bs:ByteArray,w.heap[β.al b]?=some (.stringIter bs pos)/\s=iQ bs/\(¬ad (β.al b)/\¬ai (β.al b)):=by
  intro H w ad ai β e d f a;have c:=(f it (by simp[g,g7])).1;rw[hx]at c;simp only[az,bN,bR]at c;obtain⟨_,al,off,t,m,k,n⟩:=c;simp[gd]at k;subst k;obtain⟨rfl,rfl⟩:=n (.inr ⟨_,_,a⟩);obtain⟨bs,k1,k2,k3⟩:=d.cC b _ a;unfold cz at k3;rw[if_neg (by simp)]at k3;exact⟨m,bs,k1,k2,k3⟩
 constructor
 ·intro i H w ad ai β e d f ak _;have a:H[b]?=some (.dA s pos):=by simpa using ak
  obtain⟨c,bs,k1,rfl,k3⟩:=key d f a;have j:pos<bs.size:=by simpa[iQ]using i
  have l:β.al b<w.heap.size:=(b5.1 k1).1;rw[UB];have r:(dp e o).run P w=.ok (.value (.tuple #[.bool true,goInt pos,.int .i32 (hp bs pos).1])) {w with heap:=w.heap.setIfInBounds (β.al b) (.stringIter bs (pos+(hp bs pos).2))}:=by
   simp only[dp,g,c];refine wD ?_;simp[gx,getObj,setObj,ho,k1,hl,j]
  have aK:cj β H β (H.set b (.dA (iQ bs) (pos+(hp bs pos).2))):=pZ a (.inr (.inr (.inr ⟨_,_,_,rfl,rfl⟩)));have q:=D7 (o':=.dA (iQ bs) (pos+(hp bs pos).2)) (ob:=.stringIter bs (pos+(hp bs pos).2)) d a trivial trivial (fun _ h=>h) (fun _ h=>by cases h) l k3 aK
   ⟨bs,by simp[l],rfl,by unfold cz;rw[if_neg (by simp)];exact k3⟩ trivial
  refine⟨_,_,_,β,ad,r,.inl rfl,?_,?_,by simp[aD]⟩
  ·simpa only[newAt,hE,bf]using q
  ·simp only[az,aC,bw];exact⟨_,⟨_,_,rfl,rfl,_,_,rfl,rfl,_,_,rfl,rfl,rfl⟩,rfl⟩
 ·intro i;refine bu.same fun H w ad ai β e d f ak=>?_;have a:H[b]?=some (.dA s pos):=by simpa using ak
  obtain⟨c,bs,k1,rfl,k3⟩:=key d f a;have j:¬pos<bs.size:=by simpa[iQ]using i
  refine⟨.tuple #[.bool false],?_,by simp only[az,aC,bw];exact⟨_,⟨_,_,rfl,rfl,rfl⟩,rfl⟩,by simp[aD]⟩;simp only[dp,g,c];refine eE ?_;simp[gx,getObj,ho,k1,hl,j]
theorem XM{T u:dk}{x:dg}{f:Nat}{fs:Array ee}{t g:PV}{F:dk}(h:o.op= .field T x f)(hk:kindOf P T= .agg u)(b:P.underlying T=some (.struct fs))(hx:ρ x= .p t)(hs:aM t= .agg u)(e:(cH t)[f]?=some g)(q:(jr P u)[f]?=some F)(r:kindOf P F=aM g):
 bu P o ρ base {v:=.p g}:=by
 refine bu.same fun H w ad ai β K E z _=>?_;have a:=(z x (by simp[h,g7])).1;rw[hx]at a;simp only[az]at a;cases t<;>simp[aM]at hs;rename_i u' m;subst hs;simp only[cH]at e;simp only[aC]at a;obtain⟨l,d,k1,k2,k3⟩:=a;obtain⟨D,G,s1,s2,I,j,J,A⟩:=wF (P:=P) (T:=T) (u:=u') (n:=fs.size) (by unfold fO;rw[hk,b]);rw[b]at s1;cases s1;rw[k1]at j;cases j;have s:bM P w ad ⟨id,id⟩ [] l (m.map .p) d:=nY.2 k2;obtain⟨pre,c,post,e1,e2,e3,e4,e5,_⟩:=uy (f:=.p g) (i:=f) s (by simp[e]);simp only[bp]at e5;obtain⟨C,g1,g2,g3,g4,g5⟩:=A f (by omega);rw[q]at g5;cases g5;obtain⟨y,k,B⟩:=rW r e5 (pre:=pre) (post:=post) (cs:=d.flatten.toArray) (by simpa using e1);refine⟨y,?_,by simpa only[az]using B,by simp[aD]⟩;simp only[dp,h,k3];refine eE ?_;rw[e2,<-g2]at k;simp only[Instr.field,hm,db b,hj,g1];simp[asAgg,k]
theorem Vc{T u:dk}{n:Nat}{x k:dg}{Q:en}{i:Int}{a:List PV}{g:PV}{F:dk}(j:o.op= .index T x k)(B:gV P T=some (u,n))(hx:ρ x= .p (.st u a))(hi:ρ k= .p (.int Q i))
 (A:0<=i)(K:i.toNat<n)(h:(jr P u)[i.toNat]?=some F)(G:a[i.toNat]?=some g)(I:kindOf P F=aM g):bu P o ρ base {v:=.p g}:=by
 refine bu.same fun H w ad ai β U S t _=>?_;have b:=(t x (by simp[j,g7])).1;have d:=(t k (by simp[j,g7])).1;rw[hx]at b;rw[hi]at d;simp only[az,aC]at b d;obtain⟨l,m,k1,k2,k3⟩:=b;obtain⟨e,s,hk,r,L⟩:=uo B;rw[k1]at r;cases r;have C:F=e:=by
  obtain⟨E,_,_⟩:=CI hk;have D:(P.info? u).map (fun i:TypeInfo=>i.desc)=some (.array n e):=by rw[E,<-Cq,s]
  unfold jr at h;rw[D]at h;have q:(hC n e)[i.toNat]?=some F:=h;rw[List.getElem?_replicate,if_pos K]at q;exact(Option.some.inj q).symm
 subst C;have M:bM P w ad ⟨id,id⟩ [] (hC n (P.cellsOf F)) (a.map .p) m:=nY.2 k2;obtain⟨pre,c,post,e1,e2,e3,e4,e5,_⟩:=uy (f:=.p g) (i:=i.toNat) M (by simp[G]);simp only[bp]at e5;obtain⟨y,z,R⟩:=rW I e5 (pre:=pre) (post:=post) (cs:=m.flatten.toArray) (by simpa using e1);have N:((hC n (P.cellsOf F)).take i.toNat).sum=i.toNat*P.cellsOf F:=by rw[List.take_replicate,Nat.min_eq_left (by omega),List.sum_replicate_nat]
 have O:(sizeOf F).run P w=.ok (P.cellsOf F) w:=by
  cases hi:P.info? F with
  |none=>simp[Program.cellsOf,hi]at L
  |some i=>simp[sizeOf,typeInfo,hi,Program.cellsOf]
 refine⟨y,?_,by simpa only[az]using R,by simp[aD]⟩;simp only[dp,j,k3,d];refine eE ?_;have J:i<(n:Int):=by omega
 rw[e2,N]at z;simp only[Instr.index,asIntOf,hm,hn,db s,hj];simp[A,J,O,z]
theorem I5{k:en}{f:Bool}{ρc:dg->dl}:∀(l:List dg)(a n:Int),mc k f (l.map ρ) a=some n->(∀x∈l,az P w ad β H (ρ x) (ρc x))->
 ((l.map ρc).foldlM (if f then fa else e9) (.int k a)).run P w=.ok (.int k n) w
 |[],a,n,h,_=>by simp[mc]at h;subst h;simp
 |x::l,a,n,h,g=>by
  simp only[hD]at h;unfold mc at h
  split at h
  ·rename_i e;cases e
  ·rename_i j b r a' e;simp at e;obtain⟨e1,rfl⟩:=e
   split at h
   case isFalse=>simp at h
   rename_i hk;subst hk;have d:=g x (by simp);rw[e1]at d;simp only[az,aC]at d;have c:=I5 l _ n h (fun y i=>g y (by simp[i]));simp only[hD,List.foldlM_cons,hm,d];cases f with
   |true=>simp only[if_true,fa,hn,hj]at c⊢;exact c
   |false=>simp only[c9,if_false,e9,hn,hj]at c⊢;exact c
  ·simp at h
theorem Km{c:Call}{isMax:Bool}{k:en}{a n:Int}{r:List AV}(m:o.op= .call c)(hc:c.callee= .builtin (if isMax then .max else .min))(b:c.args.toList.map ρ= .p (.int k a)::r)(h:mc k isMax r a=some n):
 bu P o ρ base {v:=.p (.int k n)}:=by
 obtain⟨x,l,i⟩:∃x l,c.args.toList=x::l:=by
  cases s:c.args.toList with
  |nil=>rw[s]at b;simp at b
  |cons x l=>exact⟨x,l,rfl⟩
 rw[i]at b;simp at b;obtain⟨hx,rfl⟩:=b;have g:c.args=(x::l).toArray:=by apply cb;simpa using i
 have j:∀y∈x::l,y∈o.op.operands:=by
  intro y f;rw[m];simp only[g7,gb,hc,g];simpa using f
 refine bu.same fun H w ad ai β t u q _=>⟨.int k n,?_,by simp[az,aC],by simp[aD]⟩
 have d:=(q x (j x (by simp))).1;rw[hx]at d;simp only[az,aC]at d;have e:=I5 (ρc:=t) l a n h (fun y f=>(q y (j y (by simp[f]))).1);simp only[dp,m,resolve,hc,g];cases isMax with
 |true=>
  simp only[if_true]at e⊢;simp[invoke,builtin,fl,d,e]
 |false=>
  simp only[c9,if_false]at e⊢;simp[invoke,builtin,fd,d,e]
theorem aE6{c:Call}{d x:dg}{sz b aw off len:Nat}{k:AK}{f g:List AV}{H0:Heap}(V:o.op= .call c)(hc:c.callee= .builtin .copy)(Q:c.args.toList=[d,x])(ar:c.argTypes.size=2)(t:cL P (c.argTypes.getD 0 0)=some sz)
 (ac:ρ d=.sl b aw sz off len)(hx:gK H0 (ρ x)=some g)(aq:fe P sz g)(hk:k≠.frozen)(G:off+len<=f.length)(C:¬df k f):
 bu P o ρ base {v:=.p (.int .i64 (min g.length len:Nat)),ak:=(b,.arr k aw sz f)::dD H0 (ρ x),aJ:=[(b,.arr k aw sz (f.take off++g.take (min g.length len)++f.drop (off+min g.length len)))]}:=by
 obtain⟨T,X,O⟩:∃T X,c.argTypes=#[T,X]:=by
  obtain⟨l,G⟩:∃l,l=c.argTypes.toList:=⟨_,rfl⟩
  have s:l.length=2:=by rw[G];simpa using ar
  match l,s with
  |[a,b],_=>exact⟨a,b,by apply cb;simp[<-G]⟩
 have I:d∈o.op.operands/\x∈o.op.operands:=by
  have ab:c.args=#[d,x]:=by apply cb;simpa using Q
  rw[V];simp[g7,gb,hc,ab]
 have e1:c.argTypes.getD 0 0=T:=by rw[O];rfl
 rw[e1]at t;obtain⟨e,i,t⟩:=kg t;intro H w ad ai β aa D M ak _;have r:H[b]?=some (.arr k aw sz f):=ak (b,_) (by simp);have j:=(M d I.1).1;rw[ac]at j;simp only[az,bN,bR]at j;obtain⟨_,_,j⟩:=j.2 k f r;have j:=j C;rcases D.cC b _ r with hold|⟨cs,E,aE,rest,k1,k2,k3,k4,k5,k6,k7,k8⟩
 ·exact(C hold).elim
 have S:¬ad (β.al b)/\¬ai (β.al b):=by
  unfold cz at k7;rw[if_neg (by simpa using hk)]at k7;exact k7
 obtain⟨aB,av,ax,ay,aA⟩:=xl (pJ hx (fun p am=>ak p (hG _ am))) D (M x I.2).1 (M x I.2).2 aq;obtain⟨n,U⟩:∃n,n=min g.length len:=⟨_,rfl⟩
 rw[<-U];have Z:=aA w rfl n (by omega);obtain⟨y,m,z,g1,g2,g3,g4,g5⟩:=jG av 0 n (by omega);have au:y=[]:=by have:=(fN g4).1;simpa using this
 subst au;have ah:aB.take n=m:=by
  have:=(fN g2).1;rw[g1];simp at this⊢;rw[List.take_left' (by omega)]
 rw[ah]at Z;simp only[h7]at g2;obtain⟨a,N,q,f1,f2,f3,f4,f5⟩:=jG k2 off n (by omega);have J:m.flatten.length=n*sz:=by have:=(fN g2).2;rw[this];congr 1;simp;omega
 have K:N.flatten.length=n*sz:=by have:=(fN f2).2;rw[this];congr 1;simp;omega
 have R:cs.toList=a.flatten++N.flatten++(q.flatten++rest):=by rw[k3,f1];simp
 have Y:cs.size=a.flatten.length+N.flatten.length+(q.flatten++rest).length:=by
  have:=congrArg h5 R;simp only[hB,ce]at this;rw[this,hB]
 have L:=ej P (β.al b) (off*sz) E m.flatten 0 cs w k1 (by rw[Y,f3,J,K];simp only[i8];exact i9 _ _) (xu g2);simp only[i8]at L;have aU:cs.toList.take (off*sz)++m.flatten++cs.toList.drop (off*sz+m.flatten.length)=a.flatten++m.flatten++(q.flatten++rest):=by
  rw[R,<-f3,J,<-K];exact Cr _ _ _ _
 rw[aU]at L;have ao:(e8 c.argTypes o.type #[aa d,aa x]).run P w=.ok (goInt n) (w.setRow (β.al b) (a.flatten++m.flatten++(q.flatten++rest)).toArray):=by
  rw[O,j];have aj:Nat.min g.length len=n:=U.symm;have aF:∀(p:Option Addr)(n c:Nat),fm (.slice p n c)=pure n:=fun _ _ _=>rfl;simp[e8,db t.gq,ay,aj,t.run,Z,L]
 have B:(f.take off++g.take n++f.drop (off+n)).length=f.length:=by simp;omega
 have aK:cj β H β (H.set b (.arr k aw sz (f.take off++g.take n++f.drop (off+n)))):=pZ r (.inr (.inl ⟨_,_,_,_,_,rfl,rfl,B.symm⟩));have ap:∀A,ad A->(w.setRow (β.al b) (a.flatten++m.flatten++(q.flatten++rest)).toArray).heap[A]?=w.heap[A]?:=fun A ag=>eb w _ A _ (fun F=>S.1 (F▸ag));have hrefs:aV (aH H) (f.take off++g.take n++f.drop (off+n)):=by
  have W:=cJ.1 (D.refs b _ r);refine jF (jF ?_ ?_) ?_
  ·rw[cJ];exact fun v u=>W v (hK u)
  ·rw[cJ];exact fun v u=>cJ.1 ax v (hK u)
  ·rw[cJ];exact fun v u=>W v (hQ u)
 have ae:=mg r (o:=.arr k aw sz (f.take off++g.take n++f.drop (off+n))) (fun _ h=>h);have al:¬df k (f.take off++g.take n++f.drop (off+n)):=fun h=>C ⟨h.1,by have s:=h.2;rw[<-hS]at s⊢;rw[B]at s;exact s⟩;have an:=rp D r C (o':=.arr k aw sz (f.take off++g.take n++f.drop (off+n))) al (fun _ h=>h) k1 (new:=(a.flatten++m.flatten++(q.flatten++rest)).toArray) S aK
  (.inr ⟨_,E,a++m++q,rest,ec w _ _ _ E _ k1,by
   refine Row.mono (fun _ x=>x) ap aK hrefs (lB.2 ⟨_,_,rfl,lB.2 ⟨_,_,rfl,f4,g2⟩,f5⟩),by simp,by
   rw[<-k4,Y];simp only[hM,hB,J,K],by rw[B];exact k5,fun F=>by rw[B];exact k6 F,k7,(fun af=>(hk af).elim),k8.2⟩) (aV.mono ae _ hrefs)
 refine⟨_,_,_,β,ad,WN V hc Q ao,.inl rfl,?_,by simp[az,aC,goInt],by simp[aD]⟩;simpa only[newAt,hE,bf]using an
end
section
variable{P:dz}{w:dq}{ad ai:Nat->Prop}{β:Bd}{H:Heap}
variable{o:Oper}{ρ:dg->AV}{base:Nat}
theorem Am{c:Call}{x:dg}(e:o.op=.call c){b:Builtin}(hc:c.callee=.builtin b)(d:c.args.toList=[x]):x∈o.op.operands/\c.args=#[x]:=by
 have a:c.args=#[x]:=by apply cb;simpa using d
 refine⟨?_,a⟩;rw[e];simp only[g7,gb,hc,a];simp
theorem zk{T:dk}{a:AV}(h:gR P T a=true)(hs:(∃b v e i l,a=.sl b v e i l)\/a=.p .aW\/∃f c,a=.p (.bP f c)):∃e,P.underlying T=some (.slice e):=by
 rcases hs with⟨b,v,e,i,l,rfl⟩|rfl|⟨f,c,rfl⟩<;>
 ·simp only[gR]at h
  split at h
  ·rename_i e d;exact⟨e,d⟩
  ·simp at h
theorem aE5{c:Call}{x:dg}{n:Nat}{ak:List (Nat×Obj)}{H0:Heap}(y:o.op= .call c)(hc:c.callee= .builtin .cap)(A:c.args.toList=[x])(a:Bf H0 (ρ x)=some (n,ak))(m:gR P (c.argTypes.getD 0 0) (ρ x)=true)(F:0<c.argTypes.size):
 bu P o ρ base {v:=.p (.int .i64 n),ak}/\(∀p∈ak,H0[p.1]?=some p.2):=by
 obtain⟨q,B⟩:=Am y hc A;have C:c.argTypes[0]?=some (c.argTypes.getD 0 0):=by simp[cy,F]
 generalize c.argTypes.getD 0 0=T at*
 have j:∀{H:Heap}{w:dq}{ad:Nat->Prop}{β:Bd}{f:dg->dl},(∃p l,f x= .slice p l n)->(∃e,P.underlying T=some (.slice e))->
  ∃s,(dp f o).run P w=.ok (.value s) w/\az P w ad β H (.p (.int .i64 n)) s/\aD (aH H) (.p (.int .i64 n)):=by
  rintro H w ad β f ⟨p,l,hx⟩ ⟨e,G⟩;refine⟨goInt n,?_,by simp[az,aC,goInt],by simp[aD]⟩;simp only[dp,y,resolve,hc,B];simp[invoke,builtin,fv,C,hx,db G]
 unfold Bf at a
 split at a
 ·rename_i hx;simp at a;obtain⟨rfl,rfl⟩:=a;refine⟨bu.same fun H w ad ai β f r g ak=>j ?_ (zk m (.inr (.inl hx))),by simp⟩;have d:=(g x q).1;rw[hx]at d;simp only[az,aC]at d;exact⟨_,_,d⟩
 ·rename_i i hx;simp at a;obtain⟨rfl,rfl⟩:=a;refine⟨bu.same fun H w ad ai β f r g ak=>j ?_ (zk m (.inr (.inr ⟨_,_,hx⟩))),by simp⟩;have d:=(g x q).1;rw[hx]at d;simp only[az,aC]at d;obtain⟨_,_,cap,_,_,_,_,_,z,_,_,_,k⟩:=d;exact⟨_,_,by rw[k,z trivial]⟩
 ·rename_i b aw aj off len hx
  split at a
  case h_2=>simp at a
  rename_i L K i E
  split at a
  case isFalse=>simp at a
  rename_i D;obtain⟨rfl,rfl,hle⟩:=D;simp at a;obtain⟨rfl,rfl⟩:=a;refine⟨bu.same fun H w ad ai β f r g ak=>j ?_ (zk m (.inl ⟨_,_,_,_,_,hx⟩)),by simpa using E⟩;have u:H[b]?=some (.arr .exact aw aj i):=by simpa using ak
  have d:=(g x q).1;rw[hx]at d;simp only[az,bN,bR]at d;obtain⟨_,_,k⟩:=d.2 _ _ u;have t:¬df .exact i:=fun h=>by simp[df,AK.gr]at h
  rcases r.cC b _ u with hold|⟨cs,I,J,rest,k1,k2,k3,k4,k5,k6,_⟩
  ·exact(t hold).elim
  exact⟨_,_,by rw[k t,k6 rfl]⟩
 ·simp at a
theorem T4{c:Call}{x:dg}(b:o.op= .call c)(hc:c.callee= .builtin .clear)(f:c.args.toList=[x])(hx:ρ x= .p .aW)(d:gR P (c.argTypes.getD 0 0) (ρ x)=true)(j:0<c.argTypes.size):
 bu P o ρ base {v:=.p (.aE [])}:=by
 obtain⟨i,g⟩:=Am b hc f;have h:c.argTypes[0]?=some (c.argTypes.getD 0 0):=by simp[cy,j]
 generalize c.argTypes.getD 0 0=T at*;obtain⟨e,k⟩:=zk d (.inr (.inl hx));refine bu.same fun H w ad ai β n m l ak=>?_;have a:=(l x i).1;rw[hx]at a;simp only[az,aC]at a;refine⟨.tuple #[],?_,by simp[az,aC,bw],by simp[aD]⟩;simp only[dp,b,resolve,hc,g];simp[invoke,builtin,ew,h,a,db k]
theorem XN{c:Call}{x:dg}{sz b aw off len:Nat}{k:AK}{d:List AV}{z:PV}(M:o.op= .call c)(hc:c.callee= .builtin .clear)(W:c.args.toList=[x])(al:0<c.argTypes.size)(l:cL P (c.argTypes.getD 0 0)=some sz)
 (am:cO P (eH P (c.argTypes.getD 0 0))=some z)(au:bJ P (aM z)=sz)(hx:ρ x=.sl b aw sz off len)(hk:k≠.frozen)(ac:off+len<=d.length)(t:¬df k d)(ar:0<len):
 bu P o ρ base {v:=.p (.aE []),ak:=[(b,.arr k aw sz d)],aJ:=[(b,.arr k aw sz (d.take off++hC len (.p z)++d.drop (off+len)))]}:=by
 obtain⟨ae,X⟩:=Am M hc W;have Y:c.argTypes[0]?=some (c.argTypes.getD 0 0):=by simp[cy,al]
 obtain⟨e,i,l⟩:=kg l;obtain⟨av,r,U,z2,z3,z4⟩:=pQ am;rw[l.ri]at U;intro H w ad ai β V D ap ak _;have j:H[b]?=some (.arr k aw sz d):=ak (b,_) (by simp);have g:=(ap x ae).1;rw[hx]at g;simp only[az,bN,bR]at g;obtain⟨_,_,g⟩:=g.2 k d j;have g:=g t;rcases D.cC b _ j with hold|⟨cs,u,aq,rest,k1,k2,k3,k4,k5,k6,k7,k8⟩
 ·exact(t hold).elim
 have K:¬ad (β.al b)/\¬ai (β.al b):=by
  unfold cz at k7;rw[if_neg (by simpa using hk)]at k7;exact k7
 have Q:=z3 w ad;have R:r.cells.size=sz:=by have:=(nV Q).1;simp at this;omega
 have ao:r.cells.toList.length=sz:=by simpa using R
 have E:=wG (β:=β) (H:=H) Q len;rw[ao]at E;obtain⟨m,L⟩:∃m,m=hC len r.cells.toList:=⟨_,rfl⟩
 rw[<-L]at E;have F:Row P w ad β H sz (hC len (.p z)) m:=by
  exact E
 obtain⟨a,I,f,f1,f2,f3,f4,f5⟩:=jG k2 off len ac;have B:m.flatten.length=len*sz:=by have:=(fN F).2;rw[this];simp
 have C:I.flatten.length=len*sz:=by have:=(fN f2).2;rw[this];congr 1;simp;omega
 have J:cs.toList=a.flatten++I.flatten++(f.flatten++rest):=by rw[k3,f1];simp
 have O:cs.size=a.flatten.length+I.flatten.length+(f.flatten++rest).length:=by
  have:=congrArg h5 J;simp only[hB,ce]at this;rw[this,hB]
 have G:=ej P (β.al b) (off*sz) u m.flatten 0 cs w k1 (by rw[O,f3,B,C];simp only[i8];exact i9 _ _) (xu F);simp only[i8]at G;have aU:cs.toList.take (off*sz)++m.flatten++cs.toList.drop (off*sz+m.flatten.length)=a.flatten++m.flatten++(f.flatten++rest):=by
  rw[J,<-f3,B,<-C];exact Cr _ _ _ _
 rw[aU]at G;have an:(e7 r.cells len).toList=m.flatten:=by
  have:=zu r.cells len (by rw[R];exact l.pos);rw[L,<-this];rfl
 have ah:(dp V o).run P w=.ok (.value (.tuple #[])) (w.setRow (β.al b) (a.flatten++m.flatten++(f.flatten++rest)).toArray):=by
  obtain⟨S,rfl⟩:∃S,len=S+1:=⟨len-1,by omega⟩
  simp only[dp,M,resolve,hc,X];generalize c.argTypes.getD 0 0=T at*;simp only[hm,hn,hj,invoke,builtin,hR,hD,hU];have key:(ew c.argTypes o.type #[V x]).run P w=.ok (.tuple #[]) (w.setRow (β.al b) (a.flatten++m.flatten++(f.flatten++rest)).toArray):=by
   simp[ew,Y,g,db l.gq,uf U z2,an,G]
  rw[key];rfl
 have s:(d.take off++hC len (AV.p z)++d.drop (off+len)).length=d.length:=by simp;omega
 have aK:cj β H β (H.set b (.arr k aw sz (d.take off++hC len (.p z)++d.drop (off+len)))):=pZ j (.inr (.inl ⟨_,_,_,_,_,rfl,rfl,s.symm⟩));have aj:∀q,ad q->(w.setRow (β.al b) (a.flatten++m.flatten++(f.flatten++rest)).toArray).heap[q]?=w.heap[q]?:=fun q ab=>eb w _ q _ (fun A=>K.1 (A▸ab));have hrefs:aV (aH H) (d.take off++hC len (AV.p z)++d.drop (off+len)):=by
  have N:=cJ.1 (D.refs b _ j);refine jF (jF ?_ ?_) ?_
  ·rw[cJ];exact fun v n=>N v (hK n)
  ·rw[cJ];intro v n;rw[List.eq_of_mem_replicate n];simp[aD]
  ·rw[cJ];exact fun v n=>N v (hQ n)
 have Z:=mg j (o:=.arr k aw sz (d.take off++hC len (.p z)++d.drop (off+len))) (fun _ h=>h);have af:¬df k (d.take off++hC len (AV.p z)++d.drop (off+len)):=fun h=>t ⟨h.1,by have y:=h.2;rw[<-hS]at y⊢;rw[s]at y;exact y⟩;have ag:=rp D j t (o':=.arr k aw sz (d.take off++hC len (AV.p z)++d.drop (off+len))) af (fun _ h=>h) k1 (new:=(a.flatten++m.flatten++(f.flatten++rest)).toArray) K aK
  (.inr ⟨_,u,a++m++f,rest,ec w _ _ _ u _ k1,by
   refine Row.mono (fun _ x=>x) aj aK hrefs (lB.2 ⟨_,_,rfl,lB.2 ⟨_,_,rfl,f4,F⟩,f5⟩),by simp,by
   rw[<-k4,O];simp only[hM,hB,B,C],by rw[s];exact k5,fun A=>by rw[s];exact k6 A,k7,(fun aa=>(hk aa).elim),k8.2⟩) (aV.mono Z _ hrefs)
 refine⟨_,_,_,β,ad,ah,.inl rfl,?_,by simp[az,aC,bw],by simp[aD]⟩;simpa only[newAt,hE,bf]using ag
theorem Cw{c:Call}{x:dg}{v:AV}{ak:List (Nat×Obj)}{H0:Heap}(l:o.op= .call c)(hc:c.callee= .builtin .unsafeSliceData)(n:c.args.toList=[x])
 (h:(ρ x=.p .aW/\v=.p .dJ/\ak=[])\/∃b aw aj off len k a,ρ x=.sl b aw aj off len/\H0[b]?=some (.arr k aw aj a)/\ak=[(b,.arr k aw aj a)]/\((df k a/\v=.p .dJ)\/(0<len/\off+len<=a.length/\v=.b7 b aw aj off []))):
 bu P o ρ base {v,ak}:=by
 obtain⟨s,q⟩:=Am l hc n;refine bu.same fun H w ad ai β m t y r=>?_;obtain⟨d,i⟩:=y x s;have g:∀f,(fb c.argTypes o.type #[m x]).run P w=.ok f w->(dp m o).run P w=.ok (.value f) w:=by
  intro f u;simp only[dp,l,resolve,hc,q];simp only[hm,hn,hj,invoke,builtin,hR,hD,hU];rw[u];rfl
 rcases h with⟨hx,rfl,rfl⟩|⟨b,aw,aj,off,len,k,a,hx,D,rfl,h⟩
 ·rw[hx]at d;simp only[az,aC]at d;exact⟨_,g _ (by rw[d];exact Lib.run_unsafeSliceData_nil w _ _ _ _),by simp[az,aC],by simp[aD]⟩
 ·have j:H[b]?=some (.arr k aw aj a):=by simpa using r
  rw[hx]at d i;simp only[az,bN,bR]at d;obtain⟨_,v2,v3⟩:=d.2 k a j;rcases h with⟨e,rfl⟩|⟨E,hle,rfl⟩
  ·exact⟨_,g _ (by rw[v2 e];exact Lib.run_unsafeSliceData_nil w _ _ _ _),by simp[az,aC],by simp[aD]⟩
  ·have e:¬df k a:=fun h=>by rw[h.2]at hle;simp at hle;omega
   rcases t.cC b _ j with hold|⟨cs,z,A,rest,k1,k2,k3,k4,k5,_⟩
   ·exact(e hold).elim
   refine⟨_,g _ (by rw[v3 e];exact Lib.run_unsafeSliceData_row w _ _ _ _ _ (by omega)),?_,by simpa only[aD]using i⟩;simp only[az,bN,bR];refine⟨by simp[hr],β.al b,off*aj,0,by simp,rfl,fun F B C _=>⟨rfl,by simp⟩⟩
theorem W7(w:dq)(a:Addr)(n:Nat):(w.freeze a n).os=w.os/\(w.freeze a n).output=w.output:=by
 unfold hv
 first|exact⟨rfl,rfl⟩|(split<;>exact⟨rfl,rfl⟩)
theorem W0{w':dq}(j:bU P w ad β H ai){b:Nat}{o:Obj}(i:H[b]?=some o)(v:o.live)(g:¬ad (β.al b)/\¬ai (β.al b))(C:∀L,o≠ .loop L)(D:w'.heap.size=w.heap.size)
 (hs:∀k,k≠β.al b->w'.heap[k]?=w.heap[k]?)(B:w'.os=w.os/\w'.output=w.output:=by exact⟨rfl,rfl⟩):bY P ai ad w β H ad w' β (H.set b .dead):=by
 have n:b<H.length:=(hz.1 i).1;have c:∀(x:Nat)(a:Obj),(H.set b Obj.dead)[x]?=some a->a≠.dead->H[x]?=some a:=by
  intro x a hx q
  by_cases l:b=x
  ·subst l;rw[hA n]at hx;cases hx;exact(q rfl).elim
  ·rwa [hH l]at hx
 have aK:cj β H β (H.set b .dead):=by
  refine⟨?_,?_,?_,?_,?_⟩
  ·rintro x _ ⟨f,t,h⟩;exact⟨⟨f,t,c _ _ h (by simp)⟩,rfl⟩
  ·rintro x _ ⟨f,t,h⟩;exact⟨⟨f,t,c _ _ h (by simp)⟩,rfl⟩
  ·rintro x _ ⟨E,h,p⟩;exact⟨⟨E,c _ _ h (fun e=>by rw[e]at p;exact p.elim),p⟩,rfl⟩
  ·intro x aw aj k y _ h;exact⟨k,y,c _ _ h (by simp),i5 _,Iff.rfl,fun _=>⟨rfl,rfl⟩⟩
  ·rintro x _ ⟨L,h⟩;exact⟨⟨L,c _ _ h (by simp)⟩,rfl⟩
 have m:bY P ai ad w β H ad w β (H.set b .dead):=
  bY.set j n (fun _ _=>⟨rfl,rfl⟩) (fun _ x=>x) (fun _ x=>.inl x) j.bV (i5 _) (fun _ _ _=>rfl) (fun h=>h.elim) aK trivial trivial (fun _ _ _ _=>trivial) (fun L s=>by rw[i]at s;cases s;exact(C L rfl).elim)
 have hx:=j.mU i v;have z:=m.rel.Le hx (fun x a r d u=>by
  have q:a≠.dead:=fun e=>by rw[e]at d;exact d
  have l:x=b:=j.inj x b a o (c _ _ r q) i d v (fun hi=>g.1 (u▸hi)) u;subst l;rw[hA n]at r;cases r;exact d)
 have A:=z.shut (w':=w') (Prot0:=ai) (fun _ h=>.inl h) (R:=fun k=>k=β.al b) (fun x e=>⟨.inr e,e▸g.1⟩) D (fun k hk=>hs k hk);refine⟨fun _ h=>h,fun _ h=>.inl h,⟨by omega,fun k hk=>hs k (fun e=>?_),B⟩,aK,A,m.fh,m.loop⟩;rcases hk with hk|hk
 ·exact g.2 (e▸hk)
 ·exact g.1 (e▸hk)
theorem C7:∀{d:List AV}{l:List Nat}{b:List (List dl)},bytesOf d=some l->Row P w ad β H 1 d b->b.flatten=l.map (fun c=>ht .u8 (c:Nat))/\l.length=d.length/\∀c∈l,c<256
 |[],l,b,h,a=>by
  simp[bytesOf]at h;subst h;rw[hJ]at a;subst a;simp
 |v::d,l,b,h,a=>by
  unfold bytesOf at h
  split at h
  ·rename_i e;cases e
  ·rename_i c r e;simp at e;obtain⟨rfl,rfl⟩:=e
   split at h
   case isFalse=>simp at h
   rename_i hc
   split at h
   case h_2=>simp at h
   rename_i m i;simp at h;subst h;rw[rD]at a;obtain⟨j,cs,rfl,f,k,g⟩:=a;obtain⟨i1,i2,i3⟩:=C7 i g;simp only[bp,aS]at f;subst f;refine⟨by simp[i1];omega,by simp[i2],?_⟩;intro x hx;rcases hF.1 hx with rfl|hx
   ·omega
   ·exact i3 x hx
  ·simp at h
theorem Ug{S D e:dk}{x:dg}{b aw off len:Nat}{k:AK}{d:List AV}{l:List Nat}(r:o.op= .convert S D x)(B:P.underlying S=some (.slice e))(y:P.underlying D=some .string)(A:P.underlying e=some (.int .u8))(hx:ρ x= .sl b aw 1 off len)
 (M:0<len)(j:off+len<=d.length)(E:bytesOf ((d.drop off).take len)=some l):bu P o ρ base {v:=.p (.str l),ak:=[(b,.arr k aw 1 d)]}:=by
 refine bu.same fun H w ad ai β N G J ak=>?_;have q:H[b]?=some (.arr k aw 1 d):=by simpa using ak
 have f:=(J x (by simp[r,g7])).1;rw[hx]at f;simp only[az,bN,bR]at f;have n:¬df k d:=fun h=>by rw[h.2]at j;simp at j;omega
 have f:=(f.2 _ _ q).2.2 n;rcases G.cC b _ q with hold|⟨cs,K,L,rest,k1,k2,k3,k4,k5,k6,k7,k8⟩
 ·exact(n hold).elim
 obtain⟨a,m,z,g1,g2,g3,g4,g5⟩:=jG k2 off len j;obtain⟨s,t,u⟩:=C7 E g2;have F:l.length=len:=by rw[t];simp;omega
 have C:cs.toList=a.flatten++(l.map (fun c=>ht .u8 (c:Nat))++(z.flatten++rest)):=by
  rw[k3,g1];simp only[h2,hN,s]
 have I:=run_convert_bytes_arg (P:=P) w S e B A (β.al b) (off*1) len (β.cap b-off) (l.map fun c:Nat=>(c:Int)) (by simpa using F) (fun i hi=>by
  have g:i<l.length:=by omega
  have:cs[off*1+i]?=some (.int .u8 (l[i]:Nat)):=by
   rw[<-cc,C,List.getElem?_append_right (by omega),g3,Nat.add_sub_cancel_left,h8 (by simpa using g),h4,h9 g];rfl
  rw[List.getD_eq_getElem?_getD,h4,h9 g];simp only[hw,k1];simpa using this) D y
 refine⟨.string (strOfNums (l.map fun c:Nat=>(c:Int))),?_,?_,by simp[aD]⟩
 ·simp only[dp,r,f];exact eE I
 ·simp only[az,aC];refine⟨_,rfl,?_⟩;rw[strOfNums_data,hV,hV]
  conv=>lhs;rw[<-i0 l]
  refine hZ fun c hc=>?_;have:=u c hc;simp[j7];omega
theorem TF{c:Call}{x y:dg}{b aw n:Nat}{d:List AV}{l:List Nat}{T X:dk}(F:o.op= .call c)(hc:c.callee= .builtin .unsafeString)(N:c.args.toList=[x,y])(ab:c.argTypes=#[T,X])(hx:ρ x= .b7 b aw 1 0 [])(ae:ρ y= .p (.int .i64 n))
 (ah:0<n)(C:n<=d.length)(aj:n<=9223372036854775807)(M:P.underlying T=some (.pointer Gl.u8))(ac:P.cellsOf Gl.u8=1)(W:bytesOf (d.take n)=some l):
 bu P o ρ base {v:=.p (.str l),ak:=[(b,.arr .bytes aw 1 d)],aJ:=[(b,.dead)]}:=by
 have s:c.args=#[x,y]:=by apply cb;simpa using N
 have D:x∈o.op.operands/\y∈o.op.operands:=by
  rw[F];simp[g7,gb,hc,s]
 intro H w ad ai β r G I ak _;have q:H[b]?=some (.arr .bytes aw 1 d):=by simpa using ak
 have e:=(I x D.1).1;have f:=(I y D.2).1;rw[hx]at e;rw[ae]at f;simp only[az,bN,bR,aC]at e f;have i:¬df .bytes d:=fun h=>by rw[h.2]at C;simp at C;omega
 obtain⟨_,al,off,am,Y,E,e⟩:=e;simp[gd]at E;subst E;obtain⟨rfl,rfl⟩:=e _ _ q i;rcases G.cC b _ q with hold|⟨cs,af,ag,rest,k1,k2,k3,k4,k5,k6,k7,k8⟩
 ·exact(i hold).elim
 obtain rfl:=k8.2 rfl;have U:¬ad (β.al b)/\¬ai (β.al b):=by
  unfold cz at k7;rw[if_neg (by simp)]at k7;exact k7
 obtain⟨a,m,z,g1,g2,g3,g4,g5⟩:=jG k2 0 n (by omega);have O:a=[]:=by have:=(fN g4).1;simpa using this
 subst O;rw[h7]at g2;obtain⟨J,K,L⟩:=C7 W g2;obtain⟨bs,u⟩:∃bs:List UInt8,bs=l.map j9:=⟨_,rfl⟩
 have g:bs.length=n:=by rw[u];simp[K];omega
 have t:bs.map (·.toNat)=l:=by
  rw[u,hV]
  conv=>rhs;rw[<-i0 l]
  refine hZ fun c hc=>?_;have:=L c hc;simp[j7];omega
 have A:cs.toList=bs.map (fun c=>ht .u8 c.toNat)++(z.flatten++rest):=by
  rw[k3,g1];simp only[h6,h2,hN,J];congr 1;rw[<-t,hV];rfl
 have aa:=Lib.run_unsafeString_row (P:=P) w T X o.type Gl.u8 M ac (β.al b) cs.size (by simp[World.shape?,k1]) bs (fun h=>by rw[h]at g;simp at g;omega) (by
  have:=congrArg h5 A;simp only[ce,hB,ix]at this;omega) (by omega) (fun j v B=>by
  have V:j<bs.length:=(hz.1 B).1;rw[kq];have:cs[j]?=some (.int .u8 v.toNat):=by
   rw[<-cc,A,h8 (by simpa using V),h4,B];rfl
  simp[hw,k1,this])
 have Q:(dp r o).run P w=.ok (.value (.string ⟨bs.toArray⟩)) (w.freeze ⟨β.al b,0,none⟩ bs.length):=by
  simp only[dp,F,resolve,hc,s];simp only[hm,hn,hj,invoke,builtin,hR,hD,hU];have key:(e6 c.argTypes o.type #[r x,r y]).run P w=.ok (.string ⟨bs.toArray⟩) (w.freeze ⟨β.al b,0,none⟩ bs.length):=by
   rw[ab,Y,f,<-g];simpa using aa
  rw[key];rfl
 have S:∀k,k≠β.al b->(w.freeze ⟨β.al b,0,none⟩ bs.length).heap[k]?=w.heap[k]?:=by
  intro k hk;unfold hv
  split
  ·rfl
  ·simp[Array.getElem?_modify,Ne.symm hk]
 have R:(w.freeze ⟨β.al b,0,none⟩ bs.length).heap.size=w.heap.size:=by
  unfold hv
  split<;>simp
 have Z:=W0 G q i U (fun _ h=>by cases h) R S (W7 _ _ _);refine⟨_,_,_,β,ad,Q,.inl rfl,?_,?_,by simp[aD]⟩
 ·simpa only[newAt,hE,bf]using Z
 ·simp only[az,aC];exact⟨_,rfl,by simpa using t.symm⟩
theorem TA{c:Call}{x y:dg}{T X:dk}(f:o.op= .call c)(hc:c.callee= .builtin .unsafeString)(i:c.args.toList=[x,y])(j:c.argTypes=#[T,X])(hx:ρ x= .p .dJ)(k:ρ y= .p (.int .i64 0)):
 bu P o ρ base {v:=.p (.str [])}:=by
 have d:c.args=#[x,y]:=by apply cb;simpa using i
 have e:x∈o.op.operands/\y∈o.op.operands:=by
  rw[f];simp[g7,gb,hc,d]
 refine bu.same fun H w ad ai β h l g ak=>?_;have a:=(g x e.1).1;have b:=(g y e.2).1;rw[hx]at a;rw[k]at b;simp only[az,aC]at a b;refine⟨.string .empty,?_,by simp only[az,aC];exact⟨_,rfl,rfl⟩,by simp[aD]⟩;simp only[dp,f,resolve,hc,d];simp only[hm,hn,hj,invoke,builtin,hR,hD,hU];have key:(e6 c.argTypes o.type #[h x,h y]).run P w=.ok (.string .empty) w:=by
  rw[j,a,b];exact Lib.run_unsafeString_none w _ _ _ _
 rw[key];rfl
end
section
variable{P:dz}
theorem Et{c:Call}{ρ:dg->AV}{x:AV}(a:c.args.toList.map ρ=[x]):∃y,c.args.toList=[y]/\ρ y=x:=by
 match b:c.args.toList with
 |[]=>rw[b]at a;simp at a
 |[y]=>rw[b]at a;simp at a;exact⟨y,rfl,a⟩
 |_::_::_=>rw[b]at a;simp at a
theorem Kd{c:Call}(h:c.argTypes.size=2):∃T X,c.argTypes=#[T,X]:=by
 obtain⟨l,d⟩:∃l,l=c.argTypes.toList:=⟨_,rfl⟩
 have e:l.length=2:=by rw[d];simpa using h
 match l,e with
 |[a,b],_=>exact⟨a,b,by apply cb;simp[<-d]⟩
theorem pO(ah:ed->Bool):l6 P ah:=by
 intro o ρ H K _ h;unfold fE at h;have plain:∀{e:aY},K e->bu P o ρ H.length e->e.ak=[]->e.aJ=[]->∃e,K e/\bu P o ρ H.length e/\(∀p∈e.ak,H[p.1]?=some p.2)/\(∀p∈e.aJ,p.1<H.length/\p.2≠.hole):=by
  intro e A B G I;exact⟨e,A,B,by simp[G],by simp[I]⟩
 cases q:o.op<;>simp only[q]at h
 case move x=>exact plain h (Rn (.inl q)) rfl rfl
 case assign x=>exact plain h (Rn (.inr q)) rfl rfl
 case pick c a b=>
  split at h
  ·rename_i t hc;exact plain h (aFb q hc) rfl rfl
  ·exact h.elim
 case alloc T=>
  split at h
  ·rename_i z N;exact plain h.2.2.2 (XP q N h.2.2.1) rfl rfl
  ·exact h.elim
 case box T x=>exact plain h.2.2.2 (aE4 q h.2.1 h.2.2.1) rfl rfl
 case build T parts=>
  split at h
  ·rename_i u z hk N
   split at h
   ·rename_i l C;obtain⟨A,B,G⟩:=h;exact plain G (XO q hk N C A B) rfl rfl
   ·exact h.elim
  ·exact h.elim
 case buildSlice T n parts=>
  split at h
  ·rename_i sz z V N;obtain⟨A,B,G,I⟩:=h;exact plain I (T5 q V N A B G) rfl rfl
  ·exact h.elim
 case load T a=>exact aE9 q h
 case store T a x=>exact Yp q h
 case binOp b T x y aG=>
  obtain⟨v,A,B⟩:=aE2 (base:=H.length) q h;exact⟨_,A,B,nN,by simp⟩
 case unOp u T x=>
  split at h
  ·rename_i b hx;exact plain h (FF q hx (.inl ⟨rfl,_,rfl,rfl⟩)) rfl rfl
  ·rename_i k n hx;exact plain h (FF q hx (.inr (.inl ⟨rfl,_,_,rfl,rfl⟩))) rfl rfl
  ·rename_i k n hx;exact plain h (FF q hx (.inr (.inr ⟨rfl,_,_,rfl,rfl⟩))) rfl rfl
  ·exact h.elim
 case convert S D x=>
  split at h
  ·rename_i d k k0 n ab aa hx;exact plain h (Vx q ⟨_,ab⟩ aa hx) rfl rfl
  ·rename_i d s ab aa hx;exact plain h (Vw q ⟨_,ab⟩ aa hx) rfl rfl
  ·rename_i e b aw aj off len ab aa hx
   split at h
   case h_2=>exact h.elim
   rename_i k ai af U w;obtain⟨rfl,rfl,rfl,V,al,hle,h⟩:=h
   split at h
   case h_2=>exact h.elim
   rename_i l C;exact⟨_,h,Ug q ab aa V hx al hle C,by simpa using w,by simp⟩
  ·exact h.elim
 case extract t i=>
  split at h
  ·rename_i vs ap
   split at h
   ·rename_i v aq;exact plain h (J4 q (.inr ⟨_,ap,rfl⟩) (by simp[aq])) rfl rfl
   ·exact h.elim
  ·rename_i vs ap
   split at h
   ·rename_i v aq;exact plain h (J4 q (.inl ap) aq) rfl rfl
   ·exact h.elim
  ·exact h.elim
 case fieldAddr T a f=>
  obtain⟨e,A,B,G,I⟩:=Uf (base:=H.length) q h;exact plain A B G I
 case indexAddr T x i=>
  obtain⟨e,A,B,G,I⟩:=Ue (base:=H.length) q h;exact⟨e,A,B,G,by simp[I]⟩
 case field T x f=>
  split at h
  ·rename_i u fs t hk aA hx;obtain⟨A,h⟩:=h
   split at h
   ·rename_i g F ao am;exact plain h.2 (XM q hk aA hx A ao am h.1) rfl rfl
   ·exact h.elim
  ·exact h.elim
 case index T x i=>
  split at h
  ·rename_i s k n hx hi;obtain⟨A,B,G,I⟩:=h;exact plain I (Vb q hx hi A B G) rfl rfl
  ·rename_i u U k n hx hi
   split at h
   ·rename_i u' m F g J am ao;obtain⟨rfl,al,ac,hk,h⟩:=h;exact plain h (Vc q J hx hi al ac am ao hk) rfl rfl
   ·exact h.elim
  ·exact h.elim
 case makeFunc fn fi ca=>
  cases fn<;>simp only at h
  case func f=>
   obtain⟨m1,m2,m3⟩:=Va (ρ:=ρ) (base:=H.length) q
   split at h
   ·split at h
    ·rename_i a b ak aJ j an;obtain⟨q1,ad,aF⟩:=m3 H a b ak aJ j an;exact⟨_,h,q1,ad,aF⟩
    ·exact h.elim
   ·split at h
    ·rename_i a b j an;exact plain h (m1 a b j an) rfl rfl
    ·exact plain h m2 rfl rfl
 case makeSlice T l c=>
  split at h
  ·rename_i sz z aH c' V N C hc;obtain⟨A,B,rfl,I,O⟩:=h;exact plain O (Ud q V N C hc A B I) rfl rfl
  ·exact h.elim
 case slice T x lo hi aB=>
  cases aB with
  |none=>
   obtain⟨e,A,B,G,I⟩:=XK (base:=H.length) q h;exact⟨e,A,B,G,by simp[I]⟩
  |some m=>
   obtain⟨e,A,B,G,I⟩:=WA (base:=H.length) q h;exact⟨e,A,B,G,by simp[I]⟩
 case makeMap T r=>
  cases r<;>simp only at h;exact plain h (Vv q) rfl rfl
 case lookup T x i ok=>
  split at h
  case h_2=>exact h.elim
  rename_i ae E key J hi
  split at h
  case h_2=>exact h.elim
  rename_i z N;obtain⟨hk,h⟩:=h
  split at h
  ·rename_i hx;exact plain h (wR (r:=none) (es:=[]) q J N hi hk rfl (.inl ⟨hx,rfl⟩)) rfl rfl
  ·rename_i U hx
   split at h
   ·rename_i v C;exact plain h (wR (r:=some v) q J N hi hk C (.inr (.inl hx))) rfl rfl
   ·rename_i C;exact plain h (wR (r:=none) q J N hi hk C (.inr (.inl hx))) rfl rfl
   ·exact h.elim
  ·rename_i b hx
   split at h
   case h_3=>exact h.elim
   ·rename_i fz U w
    split at h
    ·rename_i v C;exact⟨_,h,wR (r:=some v) q J N hi hk C (.inr (.inr ⟨b,fz,hx,by simp⟩)),by simpa using w,by simp⟩
    ·rename_i C;exact⟨_,h,wR (r:=none) q J N hi hk C (.inr (.inr ⟨b,fz,hx,by simp⟩)),by simpa using w,by simp⟩
    ·exact h.elim
   ·rename_i ks vs w;obtain⟨Q,h⟩:=h
    split at h
    ·rename_i v C;exact⟨_,h,HM (r:=some v) q J N hi hk Q C hx,by simpa using w,by simp⟩
    ·rename_i C;exact⟨_,h,HM (r:=none) q J N hi hk Q C hx,by simpa using w,by simp⟩
    ·exact h.elim
  ·exact h.elim
 case mapUpdate T m k x=>
  split at h
  case h_3=>exact h.elim
  ·rename_i ae E b key v J W hk hx;obtain⟨hf,h⟩:=h
   split at h
   case h_3=>exact h.elim
   ·rename_i U w
    split at h
    case h_2=>exact h.elim
    rename_i r C;exact⟨_,h,IW (.inl q) J W hk hx hf C,by simpa using w,by simpa using(hz.1 w).1⟩
   ·rename_i ks vs w;obtain⟨ar,au,j,Q,C,h⟩:=AY h;rw[<-hx]at h;exact⟨_,h,yS (.inl q) J W hk hf j Q C,by simpa using w,by simpa using(hz.1 w).1⟩
  ·rename_i ae E b key J W hk _;obtain⟨hf,h⟩:=h
   split at h
   case h_2=>exact h.elim
   rename_i aE w;obtain⟨ar,au,j,Q,C,h⟩:=AY h;exact⟨_,h,yS (.inl q) J W hk hf j Q C,by simpa using w,by simpa using(hz.1 w).1⟩
 case insert T m k x=>
  split at h
  case h_3=>exact h.elim
  ·rename_i ae E b key v J W hk hx;obtain⟨hf,h⟩:=h
   split at h
   case h_3=>exact h.elim
   ·rename_i U w
    split at h
    case h_2=>exact h.elim
    rename_i r C;exact⟨_,h,IW (.inr q) J W hk hx hf C,by simpa using w,by simpa using(hz.1 w).1⟩
   ·rename_i ks vs w;obtain⟨ar,au,j,Q,C,h⟩:=AY h;rw[<-hx]at h;exact⟨_,h,yS (.inr q) J W hk hf j Q C,by simpa using w,by simpa using(hz.1 w).1⟩
  ·rename_i ae E b key J W hk _;obtain⟨hf,h⟩:=h
   split at h
   case h_2=>exact h.elim
   rename_i aE w;obtain⟨ar,au,j,Q,C,h⟩:=AY h;exact⟨_,h,yS (.inr q) J W hk hf j Q C,by simpa using w,by simpa using(hz.1 w).1⟩
 case range T x=>
  split at h
  ·rename_i s hx;exact plain h.2 (XL q hx h.1) rfl rfl
  ·exact h.elim
 case next it isStr=>
  cases isStr<;>simp only at h
  split at h
  case h_2=>exact h.elim
  rename_i b hx
  split at h
  case h_2=>exact h.elim
  rename_i s pos w;obtain⟨aC,aD⟩:=aFa (P:=P) (base:=H.length) (s:=s) (pos:=pos) q hx
  split at h
  ·rename_i Y;exact⟨_,h,aC Y,by simpa using w,by simpa using(hz.1 w).1⟩
  ·rename_i Y;exact⟨_,h,aD Y,by simpa using w,by simp⟩
 case nilCheck x=>
  split at h
  ·rename_i b p hx;exact plain h (Ct q (.inl ⟨b,p,hx⟩)) rfl rfl
  ·rename_i b v e i p hx;exact plain h (Ct q (.inr (.inl ⟨b,v,e,i,p,hx⟩))) rfl rfl
  ·rename_i t hx;exact plain h (Ct q (.inr (.inr ⟨t,hx⟩))) rfl rfl
  ·exact h.elim
 case call c=>
  split at h
  case h_2=>exact h.elim
  rename_i b hc
  split at h
  ·rename_i x j
   split at h
   case h_2=>exact h.elim
   rename_i n ak C;obtain⟨A,B,G⟩:=h;obtain⟨y,M,rfl⟩:∃y,c.args.toList=[y]/\ρ y=x:=by
    match L:c.args.toList with
    |[]=>rw[L]at j;simp at j
    |[y]=>rw[L]at j;simp at j;exact⟨y,rfl,j⟩
    |_::_::_=>rw[L]at j;simp at j
   obtain⟨q1,ad⟩:=aE8 (P:=P) (base:=H.length) q hc M C A B;exact⟨_,G,q1,ad,by simp⟩
  ·rename_i s x j;obtain⟨y,z,M,rfl,rfl⟩:∃y z,c.args.toList=[y,z]/\ρ y=s/\ρ z=x:=by
    match L:c.args.toList with
    |[]=>rw[L]at j;simp at j
    |[y]=>rw[L]at j;simp at j
    |[y,z]=>rw[L]at j;simp at j;exact⟨y,z,rfl,j.1,j.2⟩
    |_::_::_::_=>rw[L]at j;simp at j
   exact WC q hc M h.1 h.2
  ·rename_i k a r j
   split at h
   ·rename_i n ac;exact plain h (Km (isMax:=false) q hc j ac) rfl rfl
   ·exact h.elim
  ·rename_i k a r j
   split at h
   ·rename_i n ac;exact plain h (Km (isMax:=true) q hc j ac) rfl rfl
   ·exact h.elim
  ·rename_i d x j;obtain⟨y,z,M,ay,rfl⟩:∃y z,c.args.toList=[y,z]/\ρ y=d/\ρ z=x:=by
    match L:c.args.toList with
    |[]=>rw[L]at j;simp at j
    |[y]=>rw[L]at j;simp at j
    |[y,z]=>rw[L]at j;simp at j;exact⟨y,z,rfl,j.1,j.2⟩
    |_::_::_::_=>rw[L]at j;simp at j
   split at h
   case h_2=>exact h.elim
   rename_i sz b aw aj off len aI V hx;obtain⟨rfl,A,B,h⟩:=h
   split at h
   case h_2=>exact h.elim
   rename_i k ai af U w;obtain⟨rfl,rfl,G,I,O,Z⟩:=h;refine⟨_,Z,aE6 q hc M B V ay hx A G I O,?_,by simpa using(hz.1 w).1⟩;intro p Y;rcases hF.1 Y with rfl|Y
   ·exact w
   ·exact nN p Y
  ·rename_i x j;obtain⟨y,M,rfl⟩:=Et j
   split at h
   case h_2=>exact h.elim
   rename_i n ak C;obtain⟨A,B,G⟩:=h;obtain⟨q1,ad⟩:=aE5 (P:=P) (base:=H.length) q hc M C A B;exact⟨_,G,q1,ad,by simp⟩
  ·rename_i x j;obtain⟨y,M,R⟩:=Et j
   split at h
   ·rw[<-R]at h;exact plain h.2.2 (T4 q hc M R h.1 h.2.1) rfl rfl
   ·split at h
    ·rename_i b aw aj off len sz z k ai af U V N w;obtain⟨rfl,rfl,rfl,A,B,G,I,O,Z,ax⟩:=h;exact⟨_,ax,XN q hc M O V N A R B G I Z,by simpa using w,by simpa using(hz.1 w).1⟩
    ·exact h.elim
   ·exact h.elim
  ·rename_i x j;obtain⟨y,M,R⟩:=Et j
   split at h
   ·exact plain h (Cw (H0:=H) q hc M (.inl ⟨R,rfl,rfl⟩)) rfl rfl
   ·split at h
    ·rename_i b aw aj off len k ai af U w;obtain⟨rfl,rfl,h⟩:=h;rcases h with⟨A,B,G⟩|⟨A,B,G⟩
     ·exact⟨_,G,Cw q hc M (.inr ⟨_,_,_,_,_,_,_,R,w,rfl,.inl ⟨⟨A,B⟩,rfl⟩⟩),by simpa using w,by simp⟩
     ·exact⟨_,G,Cw q hc M (.inr ⟨_,_,_,_,_,_,_,R,w,rfl,.inr ⟨A,B,rfl⟩⟩),by simpa using w,by simp⟩
    ·exact h.elim
   ·exact h.elim
  ·rename_i x n j;obtain⟨y,z,M,R,av⟩:∃y z,c.args.toList=[y,z]/\ρ y=x/\ρ z=.p (.int .i64 n):=by
    match L:c.args.toList with
    |[]=>rw[L]at j;simp at j
    |[y]=>rw[L]at j;simp at j
    |[y,z]=>rw[L]at j;simp at j;exact⟨y,z,rfl,j.1,j.2⟩
    |_::_::_::_=>rw[L]at j;simp at j
   split at h
   ·obtain⟨rfl,A,B⟩:=h;obtain⟨T,X,ag⟩:=Kd A;exact plain B (TA q hc M ag R av) rfl rfl
   ·split at h
    ·rename_i b aw aj i ai af U w;obtain⟨rfl,rfl,rfl,rfl,A,B,G,I,O,Z,h⟩:=h;obtain⟨T,X,ag⟩:=Kd I
     split at h
     ·rename_i l C;obtain⟨m,rfl⟩:=Int.eq_ofNat_of_zero_le (by omega:0<=n);simp only[Int.toNat_natCast]at B C;have J:P.underlying T=some (.pointer Gl.u8):=by
       rw[ag]at O;simp only[ptrTo]at O
       split at O
       ·rename_i e az;simp at O;rw[<-O];exact az
       ·simp at O
      exact⟨_,h,TF q hc M ag R av (by omega) B (by omega) J Z C,by simpa using w,by simpa using(hz.1 w).1⟩
     ·exact h.elim
    ·exact h.elim
   ·exact h.elim
  ·exact h.elim
end
section
variable{P:dz}{ah:ed->Bool}{n:Nat}
theorem K4{o o':Obj}(h:mw o=some o'):mw o'=some o':=by
 unfold mw at h
 split at h
 ·simp at h;subst h;rfl
 ·rename_i k aw aj b
  split at h
  ·simp at h
  ·split at h
   ·rename_i l a;simp at h;subst h;simp[mw,AK.gr,a]
   ·simp at h
 ·simp at h;subst h;rfl
 ·simp at h
theorem anY{w:dq}{ad ai:Nat->Prop}{β:Bd}{H:Heap}(d:bU P w ad β H ai){b:Nat}{o o':Obj}(c:H[b]?=some o)(hf:mw o=some o'):
 ∃aF,bY P ai ad w β H aF w β (H.set b o')/\aF (β.al b):=by
 unfold mw at hf
 split at hf
 ·rename_i fz t;simp at hf;subst hf;obtain⟨cs,T,g,i,j,m⟩:=d.cC b _ c;have aK:cj β H β (H.set b (.box true (.p t))):=tR c (.inl ⟨_,_,_,rfl,rfl⟩);exact tW d c trivial (o':=.box true (.p t)) trivial (fun _ h=>h) (fun _ h=>by cases h) aK j.uP
   (fun aF hi l=>⟨cs,T,g,bp.mono hi (fun _ _=>rfl) aK _ _ (by simp[aD]) i,l,fun _=>trivial,m.2⟩) (by simp[Obj.refs,aD])
 ·rename_i k aw aj f
  split at hf
  ·simp at hf
  ·rename_i q
   split at hf
   case h_2=>simp at hf
   rename_i C z;simp at hf;subst hf;have r:=me z;rcases d.cC b _ c with hold|⟨cs,T,u,rest,g,i,j,m,x,A,y,B⟩
   ·exact(q hold).elim
   have s:¬df .frozen f:=fun h=>by cases h.1
   have aK:cj β H β (H.set b (.arr .frozen aw aj f)):=tR c (.inr (.inl ⟨_,_,_,_,_,rfl,rfl,q,s⟩));exact tW d c q (o':=.arr .frozen aw aj f) s (fun _ h=>h) (fun _ h=>by cases h) aK y.uP
    (fun aF hi l=>.inr ⟨cs,T,u,rest,g,bM.mono hi (fun _ _=>rfl) aK _ _ _ (d.refs b _ c) i,j,m,x,(fun h=>by cases h),l,fun _ e n=>(by rw[r]at n;simp at n;obtain⟨a,_,rfl⟩:=n;trivial),fun h=>by cases h⟩)
    (by rw[r];exact jb _ _)
 ·rename_i fz f;simp at hf;subst hf;obtain⟨v,clock,g,i,j⟩:=d.cC b _ c;have aK:cj β H β (H.set b (.map true f)):=tR c (.inr (.inr ⟨_,_,_,rfl,rfl⟩));exact tW d c trivial (o':=.map true f) trivial (fun _ h=>h) (fun _ h=>by cases h) aK j.uP
   (fun aF hi l=>⟨v,clock,g,cA.mono hi (fun _ _=>rfl) _ _ i,l⟩) trivial
 ·simp at hf
theorem Jy{w:dq}{ai:Nat->Prop}{β:Bd}{H0:Heap}:∀(bs:List Nat){ak aJ:List (Nat×Obj)}{H:Heap}{ad:Nat->Prop},lF H0 bs=some (ak,aJ)->bU P w ad β H ai->
 (∀p∈ak,∃c,H[p.1]?=some c/\mw c=mw p.2)->∃aF,bY P ai ad w β H aF w β (bf H aJ)/\∀b∈bs,aF (β.al b)
 |[],ak,aJ,H,ad,h,a,_=>by
  simp[lF]at h;obtain⟨rfl,rfl⟩:=h;exact⟨ad,bY.refl a,by simp⟩
 |b::bs,ak,aJ,H,ad,h,a,hc=>by
  simp only[lF]at h
  split at h
  case h_2=>simp at h
  rename_i o q s r g
  split at h
  case h_2=>simp at h
  rename_i o' hf;simp at h;obtain⟨rfl,rfl⟩:=h;obtain⟨c,g1,g2⟩:=hc (b,o) (by simp);simp only at g1 g2;rw[hf]at g2;obtain⟨n,e,l⟩:=anY a g1 g2;have i:b<H.length:=(hz.1 g1).1;obtain⟨f,q1,m⟩:=Jy bs g e.rel (by
   intro p j;obtain⟨k,k1,k2⟩:=hc p (by simp[j])
   by_cases d:b=p.1
   ·rw[<-d]at k1⊢;rw[g1]at k1;cases k1;refine⟨o',by rw[hA i],?_⟩;rw[<-k2,g2,K4 g2]
   ·exact⟨k,by rw[hH d];exact k1,k2⟩)
  refine⟨f,by simpa only[bf]using e.trans q1,?_⟩;intro x hx;rcases hF.1 hx with rfl|hx
  ·exact q1.bV _ l
  ·exact m x hx
theorem K5{H0:Heap}:∀(bs:List Nat){ak aJ:List (Nat×Obj)},lF H0 bs=some (ak,aJ)->(∀p∈ak,H0[p.1]?=some p.2)/\(∀p∈aJ,p.1<H0.length/\p.2≠.hole)/\ak.map (·.1)=bs
 |[],ak,aJ,h=>by
  simp[lF]at h;obtain⟨rfl,rfl⟩:=h;simp
 |b::bs,ak,aJ,h=>by
  simp only[lF]at h
  split at h
  case h_2=>simp at h
  rename_i o f g d e
  split at h
  case h_2=>simp at h
  rename_i o' hf;simp at h;obtain⟨rfl,rfl⟩:=h;obtain⟨i1,i2,i3⟩:=K5 bs e;refine⟨?_,?_,by simp[i3]⟩
  ·intro p a;rcases hF.1 a with rfl|a
   ·exact d
   ·exact i1 p a
  ·intro p a;rcases hF.1 a with rfl|a
   ·refine⟨(hz.1 d).1,fun c=>?_⟩;simp only at c;have:=K4 hf;rw[c]at this;simp[mw]at this
   ·exact i2 p a
theorem Ye{w:dq}{ad aF ai:Nat->Prop}{β:Bd}{H0 H:Heap}{a:AV}{pv:PV}{bs:List Nat}{v:dl}(d:mG H0 a=some (pv,bs))(ak:∀b∈bs,H[b]?=H0[b]?)(n:bU P w ad β H ai)(e:az P w ad β H a v)
 (hi:∀k,ad k->aF k)(r:∀b∈bs,aF (β.al b)):aC P w aF pv v:=by
 cases a with
 |p t=>
  simp[mG]at d;obtain⟨rfl,rfl⟩:=d;simp only[az]at e;exact aC.mono hi (fun _ _=>rfl) _ _ e
 |sl b aw aj off len=>
  simp only[mG]at d
  split at d
  case h_2=>simp at d
  rename_i k S M g l
  split at d
  case isFalse=>simp at d
  rename_i F;obtain⟨rfl,rfl,R⟩:=F
  split at d
  ·simp at d
  ·rename_i y
   split at d
   case h_2=>simp at d
   rename_i z I;simp at d;obtain⟨rfl,rfl⟩:=d;have x:=me I;have f:H[b]?=some (.arr k aw aj g):=by rw[ak b (by simp)];exact l
   have j:=r b (by simp);simp only[az,bN,bR]at e;obtain⟨v1,v2,v3⟩:=e.2 k g f;rcases n.cC b _ f with hold|⟨cs,T,A,rest,i,h,q,D,N,E,O,Q⟩
   ·exact(y hold).elim
   rw[v3 y];have J:Row P w aF β H aj g A:=bM.mono hi (fun _ _=>rfl) (cj.refl _ _) _ _ _ (n.refs b _ f) h;obtain⟨a,m,c,e1,e2,e3,e4,e5⟩:=jG J off len v1;rw[x,Co,mf]at e2;have u:((z.drop off).take len).length=len:=by
    have:g.length=z.length:=by rw[x];simp
    simp;omega
   simp only[aC];refine⟨β.al b,off*aj,β.cap b-off,aj,m,e2,fun _=>j,?_,?_,?_,none,.inl rfl,?_⟩
   ·rw[<-e3];exact l8 i (post:=c.flatten++rest) (by rw[q,e1];simp)
   ·intro hf;simp at hf;rw[u,E hf.1];omega
   ·rw[u];omega
   ·rw[u]
 |ptr b path=>
  simp only[mG]at d
  split at d
  case h_2=>simp at d
  rename_i fz t l
  split at d
  case h_2=>simp at d
  rename_i s hs;simp at d;obtain⟨rfl,rfl⟩:=d;have f:H[b]?=some (.box fz (.p t)):=by rw[ak b (by simp)];exact l
  have j:=r b (by simp);simp only[az,bN,bR]at e;obtain⟨_,L,K,o,rfl,G,e⟩:=e;obtain⟨rfl,rfl⟩:=e (.inl ⟨fz,_,f⟩);obtain⟨cs,T,i,h,q,D⟩:=n.cC b _ f;have C:aS P w aF t cs.toList:=by simp only[bp]at h;exact aS.mono hi (fun _ _=>rfl) _ _ h
  obtain⟨pre,xs,post,e1,e2,e3⟩:=zY C hs G;simp only[aC];refine⟨β.al b,K,xs,e3,j,?_,rfl⟩;rw[<-e2];exact l8 i e1
 |map b=>
  simp only[mG]at d
  split at d
  case h_2=>simp at d
  rename_i fz g l;simp at d;obtain⟨rfl,rfl⟩:=d;have f:H[b]?=some (.map fz g):=by rw[ak b (by simp)];exact l
  have j:=r b (by simp);simp only[az,bN,bR]at e;have e:=e.2.1 ⟨_,f,trivial⟩;obtain⟨B,clock,i,h,q⟩:=n.cC b _ f;simp only[aC];exact⟨β.al b,B,clock,j,i,cA.mono hi (fun _ _=>rfl) _ _ h,e⟩
 |b7=>simp[mG]at d
 |func=>simp[mG]at d
 |st=>simp[mG]at d
 |aE=>simp[mG]at d
theorem KJ{w:dq}{ad aF ai:Nat->Prop}{β:Bd}{H0 H:Heap}:∀{l:List AV}{vs:List PV}{bs:List Nat}{d:List dl},oB H0 l=some (vs,bs)->(∀b∈bs,H[b]?=H0[b]?)->bU P w ad β H ai->bB P w ad β H l d->
 (∀k,ad k->aF k)->(∀b∈bs,aF (β.al b))->bw P w aF vs d
 |[],vs,bs,d,h,_,_,c,_,_=>by
  simp[oB]at h;obtain⟨rfl,rfl⟩:=h;simp only[bB]at c;simpa[bw]using c
 |a::l,vs,bs,d,h,ak,f,c,hi,e=>by
  simp only[oB]at h
  split at h
  case h_2=>simp at h
  rename_i v m o n g i;simp at h;obtain⟨rfl,rfl⟩:=h;simp only[bB]at c;obtain⟨y,j,rfl,k1,k2⟩:=c;simp only[bw];exact⟨y,j,rfl,Ye g (fun b hx=>ak b (by simp[hx])) f k1 hi (fun b hx=>e b (by simp[hx])),KJ i (fun b hx=>ak b (by simp[hx])) f k2 hi (fun b hx=>e b (by simp[hx]))⟩
def Act(P:dz)(n:Nat)(o:Oper)(s:St)(e:aY):Prop:=
 ∀(fr:eo)(k:List Item)(cs:List eo)(a:Array Oper)(i:Nat)(r:List Nat)(b:List Deferred)(ai ad:Nat->Prop)(β:Bd)(s':St)(t:Array dl)(w:dq),
  a[i]?=some o->hg o (yielded a t)=true->iU n o=true->cN P n ai ad β s' t w->(∀x∈o.op.operands,ev s'.env x=ev s.env x)->
  (∀p∈e.ak,s'.heap[p.1]?=some p.2)->(∀j,j<e.aU.length->s'.heap[s.heap.length+j]?=some .hole)->
  ∃aF aI c w',Steps P (lone (bE fr t b (.inRegion a (i::r)::k)) cs w) (lone (bE fr c b (.inRegion a r::k)) cs w')/\
   cN P n ai aF aI ⟨put o.dst e.v s'.env,bf s'.heap (e.aJ++newAt s.heap.length e.aU)⟩ c w'/\∀N,dP N ai ad w β s'.heap ai aF w' aI (bf s'.heap (e.aJ++newAt s.heap.length e.aU))
theorem UJ{o:Oper}{K:aY->Prop}{s:St}(h:jj P ah o s K)(c:Call):o.op≠.defer c:=by
 intro hc;unfold jj at h;rw[hc]at h;simp[fE,hc]at h
theorem OK{e e':Env}{l:List dg}(h:∀x∈l,ev e' x=ev e x):l.map (ev e')=l.map (ev e):=hZ h
theorem L5{o:Oper}{f:dg}{H:Array dg}{aj:Array dk}{g:ed}{fi ca:List AV}{K:aY->Prop}{s:St}
 (W:o.op=.call {callee:=.value f,args:=H,argTypes:=aj})
 (hf:(ev s.env f=.func g fi ca)\/(∃a b,ev s.env f=.p (.func g a b)/\fi=a.map .p/\ca=b.map .p))
 (h:gU P g (fi++H.toList.map (ev s.env)++ca) s.heap K):
 ∃e,K e/\(∀p∈e.ak,s.heap[p.1]?=some p.2)/\(∀p∈e.aJ,p.1<s.heap.length/\p.2≠.hole)/\Act P n o s e:=by
 have Q:∀c,o.op≠.defer c:=fun c hc=>by rw[W]at hc;cases hc
 have ab:f∈o.op.operands/\∀x∈H.toList,x∈o.op.operands:=by
  rw[W];simp[g7,gb];exact fun x hx=>.inr hx
 have M:∀{ai ad:Nat->Prop}{β:Bd}{s':St}{t:Array dl}{w:dq},cN P n ai ad β s' t w->(∀x∈o.op.operands,ev s'.env x=ev s.env x)->
  ∃m:List dl,bB P w ad β s'.heap (fi++H.toList.map (ev s.env)++ca) m/\aV (aH s'.heap) (fi++H.toList.map (ev s.env)++ca)/\(dp (fF t) o).run P w=(callFunc g m.toArray).run P w:=by
  intro ai ad β s' t w d A;have I:=om d f;rw[A f ab.1]at I;obtain⟨G,F,au,ar,ap,ay,ax⟩:∃G F:List dl,fF t f=.func (.func g) G.toArray F.toArray/\bB P w ad β s'.heap fi G/\bB P w ad β s'.heap ca F/\aV (aH s'.heap) fi/\aV (aH s'.heap) ca:=by
   rcases hf with hf|⟨a,b,hf,rfl,rfl⟩
   ·rw[hf]at I;simp only[az,aD]at I;obtain⟨⟨G,F,y,z,D⟩,S,an⟩:=I;exact⟨G,F,D,y,z,S,an⟩
   ·rw[hf]at I;simp only[az,aC]at I;obtain⟨⟨G,F,y,z,D⟩,_⟩:=I;exact⟨G,F,D,jw.2 y,jw.2 z,jb _ _,jb _ _⟩
  obtain⟨Y,Z⟩:=wX d H.toList;rw[OK (fun x hx=>A x (ab.2 x hx))]at Y Z;refine⟨G++H.toList.map (fF t)++F,pR (pR ar Y) ap,jF (jF ay Z) ax,?_⟩;simp only[dp,W,resolve,au,Deferred.ofValue,hm,hn,hj,invoke];congr 2;simp
 have pure:∀(fr:eo)(k:List Item)(cs:List eo)(l:Array Oper)(i:Nat)(r:List Nat)(u:List Deferred)(ai ad E:Nat->Prop)(β:Bd)(s':St)(t:Array dl)(w:dq)(H1:Heap)(m:List dl)(vs:List PV)(v:PV),
  l[i]?=some o->hg o (yielded l t)=true->iU n o=true->cN P n ai ad β s' t w->(dp (fF t) o).run P w=(callFunc g m.toArray).run P w->
  bY P ai ad w β s'.heap E w β H1->bw P w E vs m->aA P g vs v->
  ∃aF aI ah w',Steps P (lone (bE fr t u (.inRegion l (i::r)::k)) cs w) (lone (bE fr ah u (.inRegion l r::k)) cs w')/\
   cN P n ai aF aI ⟨put o.dst (.p v) s'.env,H1⟩ ah w'/\∀N,dP N ai ad w β s'.heap ai aF w' aI H1:=by
  intro fr k cs l i r u ai ad E β s' t w H1 m vs v q C B d O j af L;rcases L with⟨aq,L⟩|L
  ·rw[aq]at O;obtain⟨e,w',al,⟨R,aF,U,g1,g2,g3,g4,g5,am,g6⟩,aK,av,V⟩:=L w E _ j.rel.bV j.rel.ie af (bE fr t u (.inRegion l (i::r)::k)::cs);subst U;have ae:=j.trans (j.rel.later g1 g2 g3 g4 g5 am);refine⟨aF,β,_,w',?_,d.put B ae (by simpa[az]using g6) (by simp[aD]),fun _=>ae.fq⟩;rw[<-nP q];exact(Steps.one (wM q C Q O)).trans (Steps.trans aK (.one (ei V)))
  ·obtain⟨R,y,z⟩:=L w E _ af;rw[y]at O;exact⟨E,β,_,w,.one (tU q C Q O (.inl rfl)),d.put B j (by simpa[az]using z) (by simp[aD]),fun _=>j.fq⟩
 rcases h with⟨vs,v,y,z,D⟩|⟨vs,bs,ak,aJ,v,y,z,D,S⟩|⟨e,X,ac,T⟩|⟨ak,v,ao,aw,T⟩
 ·refine⟨_,D,by simp,by simp,?_⟩;intro fr k cs l i r u ai ad β s' t w q C B d A _ _;obtain⟨m,c1,c2,c3⟩:=M d A;rw[y]at c1;simp only[newAt,hE,bf];exact pure fr k cs l i r u ai ad ad β s' t w s'.heap m vs v q C B d c3 (bY.refl d.heap) (jw.1 c1) z
 ·obtain⟨i1,i2,i3⟩:=K5 bs z;refine⟨_,S,i1,i2,?_⟩;intro fr k cs l i r u ai ad β s' t w q C B d A J _;obtain⟨m,c1,c2,c3⟩:=M d A;obtain⟨E,ag,aB⟩:=Jy bs z d.heap (fun p j=>⟨p.2,J p j,rfl⟩);simp only[newAt,hE];refine pure fr k cs l i r u ai ad E β s' t w _ m vs v q C B d c3 ag (KJ y ?_ d.heap c1 ag.bV aB) D;intro b aa;rw[<-i3]at aa;obtain⟨p,j,rfl⟩:=iL.1 aa;rw[J p j,i1 p j]
 ·refine⟨_,T,ac.1,ac.2,?_⟩;intro fr k cs l i r u ai ad β s' t w q C B d A J aU;obtain⟨m,c1,c2,c3⟩:=M d A;rw[X.1]at c3;obtain⟨x,w',al,⟨R,aI,aF,U,g1,g2,g3⟩,aK,av,V⟩:=X.2 s'.heap w ad ai β _ d.heap c1 c2 J aU (bE fr t u (.inRegion l (i::r)::k)::cs);subst U;refine⟨aF,aI,_,w',?_,d.put B g1 g2 g3,fun _=>g1.fq⟩;rw[<-nP q];exact(Steps.one (wM q C Q c3)).trans (Steps.trans aK (.one (ei V)))
 ·refine⟨_,T,aw,by simp,?_⟩;intro fr k cs l i r u ai ad β s' t w q C B d A J aU;obtain⟨m,c1,c2,c3⟩:=M d A;obtain⟨R,y,D⟩:=ao s'.heap w ad ai β _ d.heap c1 c2 J;rw[y]at c3;have j:=bY.refl d.heap;simp only[newAt,hE,bf];exact⟨ad,β,_,w,.one (tU q C Q c3 (.inl rfl)),d.put B j (by simpa[az]using D) (by simp[aD]),fun _=>j.fq⟩
theorem Wl{o:Oper}{f:dg}{a:Array dg}{y:Array dk}{b:Nat}{e:aY}{s:St}
 (j:o.op=.call {callee:=.value f,args:=a,argTypes:=y})(hf:ev s.env f=.map b)(hY:uL P b (a.toList.map (ev s.env)) s.heap.length e):Act P n o s e:=by
 have G:∀c,o.op≠.defer c:=fun c hc=>by rw[j]at hc;cases hc
 have u:f∈o.op.operands/\∀x∈a.toList,x∈o.op.operands:=by
  rw[j];simp[g7,gb];exact fun x hx=>.inr hx
 intro fr k cs I i r z ai ad β s' t w v H C d m E aU;have h:=(om d f).1;rw[m f u.1,hf]at h;simp only[az,bN,bR]at h;obtain⟨l,p⟩:=wX d a.toList;rw[OK (fun x hx=>m x (u.2 x hx))]at l p;obtain⟨F,g,tmps,assign,body,A,B⟩:=hY s'.heap w ad ai β _ d.heap l p E aU;have D:=h.2.2 F;have q:(dp (fF t) o).run P w=(Instr.yield (β.al b) (a.toList.map (fF t)).toArray).run P w:=by
  simp only[dp,j,resolve,D,Deferred.ofValue,hm,hn,hj,invoke];congr 2;exact cb (by simp)
 rw[A]at q;obtain⟨J,w',aI,aF,g1,g2,g3,g4⟩:=B (bE fr t z (.inRegion I (i::r)::k)) cs;refine⟨aF,aI,_,w',?_,d.put C g2 g3 g4,fun _=>g2.fq⟩;rw[<-nP v];exact(Steps.one (JX v H G q)).trans g1
theorem Xg(m:l6 P ah){o:Oper}{K:aY->Prop}{s:St}(h:jj P ah o s K):
 ∃e,K e/\(∀p∈e.ak,s.heap[p.1]?=some p.2)/\(∀p∈e.aJ,p.1<s.heap.length/\p.2≠.hole)/\Act P n o s e:=by
 have E:=UJ h;have q:fE P ah o (ev s.env) s.heap K->∃e,K e/\(∀p∈e.ak,s.heap[p.1]?=some p.2)/\(∀p∈e.aJ,p.1<s.heap.length/\p.2≠.hole)/\Act P n o s e:=by
  intro h;obtain⟨e,a,hs,ak,aJ⟩:=m o _ _ _ (fun v=>rfl) h;refine⟨e,a,ak,aJ,?_⟩;intro fr k cs L i r J ai ad β s' t w F G C d B D aU;obtain⟨nx,I,w',aI,aF,u,y,j,z,A⟩:=hs s'.heap w ad ai β (fF t) d.heap (fun x hx=>by rw[<-B x hx];exact om d x) D aU;exact⟨aF,aI,_,w',.one (tU F G E u y),d.put C j z A,fun _=>j.fq⟩
 unfold jj at h
 split at h
 ·rename_i f args H c
  split at h
  ·rename_i g fi ca hf;exact L5 c (.inr ⟨fi,ca,hf,rfl,rfl⟩) h
  ·rename_i g fi ca hf;exact L5 c (.inl hf) h
  ·rename_i b hf;obtain⟨e,hY,l,a⟩:=h;exact⟨e,a,l.1,l.2,Wl c hf hY⟩
  ·exact h.elim
 ·exact q h
end
section
variable{P:dz}{ah:ed->Bool}{n:Nat}
def looks(a:Array Oper)(o:Oper):List Tmp:=
 (o.op.operands.toList.filterMap fun x=>match x with
  | .tmp t=>some t
  |_=>none)++(match o.guard with
  |some (j,_)=>(match(a[j]?).bind (·.dst)with
   |some d=>[d]
   |none=>[])
  |none=>[])
def rF(c:Array Oper)(a b:Oper):Bool:=
 (match a.dst with
  |some d=>(looks c b).contains d||b.dst==some d
  |none=>false)||
 (match b.dst with
  |some d=>(looks c a).contains d
  |none=>false)
def fit(_:Nat)(a:Array Oper):Bool:=
 (i4 a.size).all fun j=>match a[j]? with
  |some o=>o.after.toList.all (fun e=>!hh .any e||decide (e.on<j))&&
   (i4 j).all (fun i=>match a[i]? with
    |some u=>!rF a u o||reach a a.size i j
    |none=>true)
  |none=>true
structure EF(P:dz)(n:Nat)(ops:Array Oper)(o:Oper)(s:St)(e:aY):Prop where
 ak:∀p∈e.ak,s.heap[p.1]?=some p.2
 aJ:∀p∈e.aJ,p.1<s.heap.length
 act:(∀(t:Array dl)(s':St)(ai ad:Nat->Prop)(β:Bd)(w:dq),cN P n ai ad β s' t w->(∀x∈looks ops o,aN s'.env x=aN s.env x)->hg o (yielded ops t)=true)/\Act P n o s e\/
  (∀(t:Array dl)(s':St)(ai ad:Nat->Prop)(β:Bd)(w:dq),cN P n ai ad β s' t w->(∀x∈looks ops o,aN s'.env x=aN s.env x)->hg o (yielded ops t)=false)/\e={v:=.p (.aE [])}
inductive Tr(P:dz)(n:Nat)(ops:Array Oper):List Oper->Nat->St->List (St×aY)->St->Prop
 |nil (i:Nat) (s:St):Tr P n ops [] i s [] s
 |cons {o:Oper} {r:List Oper} {i:Nat} {s s':St} {e:aY} {es:List (St×aY)}:EF P n ops o s e->Tr P n ops r (i+1) (e.app o.dst s) es s'->Tr P n ops (o::r) i s ((s,e)::es) s'
def qh(i:Nat):List (St×aY)->List Touch->List Touch
 |[],acc=>acc
 |(s,e)::r,acc=>qh (i+1) r (gP i s.heap.length e acc)
theorem Cn{a:Array Oper}{o:Oper}{j:Nat}{f:Bool}(c:o.guard=some (j,f)){e e':Env}(h:∀x∈looks a o,aN e' x=aN e x):guardOf a j e'=guardOf a j e:=by
 unfold guardOf;cases b:(a[j]?).bind (·.dst)with
 |none=>rfl
 |some d=>
  simp only;exact h d (by simp[looks,c,b])
theorem Lr(B:l6 P ah){a:Array Oper}(q:∀o∈a.toList,iU n o=true):∀(l:List Oper)(i:Nat)(d:List Touch)(s:St){K:St->Prop},(∀o∈l,o∈a.toList)->gh P ah a l i d K s->
 ∃c s',Tr P n a l i s c s'/\K s'/\kj a (qh i c d)=true
 |[],i,d,s,K,_,h=>⟨[],s,.nil i s,h.2,h.1⟩
 |o::l,i,d,s,K,F,h=>by
  have C:=fun d s(h:gh P ah a l (i+1) d K s)=>Lr B q l (i+1) d s (fun o G=>F o (by simp[G])) h
  have skip:gh P ah a l (i+1) d K ⟨put o.dst (.p (.aE [])) s.env,s.heap⟩->(∀(t:Array dl)(s':St)(ai ad:Nat->Prop)(β:Bd)(w:dq),cN P n ai ad β s' t w->(∀x∈looks a o,aN s'.env x=aN s.env x)->hg o (yielded a t)=false)->
   ∃c s',Tr P n a (o::l) i s c s'/\K s'/\kj a (qh i c d)=true:=by
   intro hk A;obtain⟨c,s',r,u,y⟩:=C _ _ hk;refine⟨(s,{v:=.p (.aE [])})::c,s',.cons ⟨by simp,by simp,.inr ⟨A,rfl⟩⟩ ?_,u,by simpa[qh,gP]using y⟩;simpa[aY.app,bf]using r
  have go:jj P ah o s (fun e=>gh P ah a l (i+1) (gP i s.heap.length e d) K (e.app o.dst s))->(∀(t:Array dl)(s':St)(ai ad:Nat->Prop)(β:Bd)(w:dq),cN P n ai ad β s' t w->(∀x∈looks a o,aN s'.env x=aN s.env x)->hg o (yielded a t)=true)->
   ∃c s',Tr P n a (o::l) i s c s'/\K s'/\kj a (qh i c d)=true:=by
   intro hk A;obtain⟨e,D,ak,aJ,E⟩:=Xg (n:=n) B hk;obtain⟨c,s',r,u,y⟩:=C _ _ D;exact⟨(s,e)::c,s',.cons ⟨ak,fun p H=>(aJ p H).1,.inl ⟨A,E⟩⟩ r,u,by simpa[qh]using y⟩
  simp only[gh]at h
  split at h
  ·rename_i f;exact go h (fun _ _ _ _ _ _ _ _=>by simp[hg,f])
  ·rename_i j I f
   split at h
   ·rename_i b m
    split at h
    ·rename_i z;refine go h (fun t s' ai ad β w k g=>?_);obtain⟨g1,g2⟩:=zx k q j;rw[Cn f g]at g1;simp[hg,f,g1 _ m,z]
    ·rename_i z;refine skip h (fun t s' ai ad β w k g=>?_);obtain⟨g1,g2⟩:=zx k q j;rw[Cn f g]at g1;simp[hg,f,g1 _ m,z]
   ·rename_i m;refine skip h (fun t s' ai ad β w k g=>?_);obtain⟨g1,g2⟩:=zx k q j;rw[Cn f g]at g2;simp[hg,f,g2 m]
   ·exact h.elim
def xP(a:Array Oper)(D:Nat->Prop):Prop:=∀j o,a[j]?=some o->D j->∀e∈o.after,hh .any e=true->D e.on
theorem CC{c:Array Oper}{D:Nat->Prop}(hc:xP c D):∀(f i j:Nat),reach c f i j=true->(∀o,c[j]?=some o->∀e∈o.after,hh .any e=true->D e.on)->D i
 |0,_,_,h,_=>by simp[reach]at h
 |f+1,i,j,h,d=>by
  simp only[reach]at h
  split at h
  case h_2=>simp at h
  rename_i o g;simp only[c6,hP,da,beq_iff_eq,decide_eq_true_eq]at h;rcases h with⟨e,b,a,rfl⟩|⟨e,b,⟨a,_⟩,k⟩
  ·exact d o g e (by simpa using b) a
  ·have m:=d o g e (by simpa using b) a;exact CC hc f i e.on k (fun o' p e' n l=>hc _ o' p m e' n l)
end
section
variable{P:dz}{ah:ed->Bool}{n:Nat}
theorem ub(a:Nat)(l:List Obj):(newAt a l).map (·.1)=oh a l:=by
 induction l generalizing a with
 |nil=>rfl
 |cons o l b=>simp[newAt,oh,b]
theorem I6{a b:Nat}{l:List Obj}:b∈oh a l↔a<=b/\b<a+l.length:=by
 induction l generalizing a with
 |nil=>simp[oh]
 |cons o l c=>simp only[oh,hF,c,List.length_cons];omega
theorem zG{l:List (Nat×Obj)}{b:Nat}(h:b∉l.map (·.1)):∀H:Heap,(bf H l)[b]?=H[b]?:=by
 induction l with
 |nil=>intro H;rfl
 |cons p l a=>
  obtain⟨c,o⟩:=p;intro H;simp only[hD,hF,not_or]at h;simp only[bf];rw[a h.2,hH (Ne.symm h.1)]
theorem VT{l:List (Nat×Obj)}{b:Nat}(h:b∈l.map (·.1)):∀H H':Heap,H.length=H'.length->(bf H l)[b]?=(bf H' l)[b]?:=by
 induction l with
 |nil=>simp at h
 |cons p l f=>
  obtain⟨c,o⟩:=p;intro H H' d;simp only[bf]
  by_cases a:b∈l.map (·.1)
  ·exact f a _ _ (by simp[d])
  ·rw[zG a,zG a];simp only[hD,hF]at h;have:b=c:=h.resolve_right a;subst this
   by_cases e:b<H.length
   ·rw[hA e,hA (by omega)]
   ·rw[hW (by simp;omega),hW (by simp;omega)]
def de(es:List (St×aY))(s':St)(k:Nat):St:=match es[k]? with
 |some (s,_)=>s
 |none=>s'
def fG(es:List (St×aY))(k:Nat):aY:=match es[k]? with
 |some (_,e)=>e
 |none=>{v:=.p .undef}
theorem Tr.at{a:Array Oper}:∀{l:List Oper}{i:Nat}{s s':St}{es:List (St×aY)},Tr P n a l i s es s'->es.length=l.length/\de es s' 0=s/\
 ∀k o,l[k]?=some o->EF P n a o (de es s' k) (fG es k)/\de es s' (k+1)=(fG es k).app o.dst (de es s' k)
 |_,_,_,_,_,.nil i s=>⟨rfl,rfl,fun k o h=>by simp at h⟩
 |_,_,_,_,_,.cons (o:=o) (r:=r) (i:=i) (s:=s) (s':=s') (e:=e) (es:=es) hi d=>by
  obtain⟨h1,b,c⟩:=d.at;refine⟨by simp[h1],rfl,fun k o' hk=>?_⟩;cases k with
  |zero=>
   simp at hk;subst hk;refine⟨by simpa[de,fG]using hi,?_⟩;have:de ((s,e)::es) s' (0+1)=de es s' 0:=by simp[de]
   rw[this,b];simp[de,fG]
  |succ k=>
   have e1:∀m,de ((s,e)::es) s' (m+1)=de es s' m:=fun m=>by simp[de]
   have e2:fG ((s,e)::es) (k+1)=fG es k:=by simp[fG]
   rw[e1,e1,e2];exact c k o' (by simpa using hk)
theorem UT(u:Touch)(i:Nat):je u ⟨i,[],[]⟩=false:=by
 simp[je]
theorem Uz(i b:Nat)(e:aY)(a:List Touch):(gP i b e a=a/\gY i b e=⟨i,[],[]⟩)\/gP i b e a=gY i b e::a:=by
 unfold gP
 split
 ·rename_i c d f;exact .inl ⟨rfl,by simp[gY,c,d,f,oh]⟩
 ·exact .inr rfl
theorem JW{c:Array Oper}:∀(g:List (St×aY))(i:Nat)(d:List Touch),kj c (qh i g d)=true->kj c d=true/\
 (∀u∈d,∀b s e,g[b]?=some (s,e)->je u (gY (i+b) s.heap.length e)=true->reach c c.size u.i (i+b)=true)/\
 (∀a b s e f e2,a<b->g[a]?=some (s,e)->g[b]?=some (f,e2)->je (gY (i+a) s.heap.length e) (gY (i+b) f.heap.length e2)=true->reach c c.size (i+a) (i+b)=true)
 |[],i,d,h=>⟨h,by simp,by simp⟩
 |(s,e)::g,i,d,h=>by
  simp only[qh]at h;obtain⟨j,m,r⟩:=JW g (i+1) _ h
  have key:kj c d=true/\(∀u∈d,je u (gY i s.heap.length e)=true->reach c c.size u.i i=true)/\(∀u∈d,∀b s e,g[b]?=some (s,e)->je u (gY (i+1+b) s.heap.length e)=true->reach c c.size u.i (i+1+b)=true)/\
   (∀b f e2,g[b]?=some (f,e2)->je (gY i s.heap.length e) (gY (i+1+b) f.heap.length e2)=true->reach c c.size i (i+1+b)=true):=by
   rcases Uz i s.heap.length e d with⟨o,q⟩|o
   ·rw[o]at j m;refine⟨j,fun u _ hc=>?_,m,fun b f e2 _ hc=>?_⟩
    ·rw[q,UT]at hc;cases hc
    ·rw[q]at hc;simp[je]at hc
   ·rw[o]at j m;simp only[kj,da,ik]at j;refine⟨j.2,fun u l hc=>?_,fun u l=>m u (by simp[l]),m _ (by simp)⟩;have:=j.1 u l;rw[hc]at this;exact(by simpa using this:reach c c.size u.i (gY i s.heap.length e).i=true)
  obtain⟨k1,k2,k3,k4⟩:=key;refine⟨k1,?_,?_⟩
  ·intro u l b p e1 k hc;cases b with
   |zero=>simp at k;obtain⟨rfl,rfl⟩:=k;exact k2 u l hc
   |succ b=>
    have:=k3 u l b p e1 (by simpa using k);rw[show i+(b+1)=i+1+b by omega]at hc⊢;exact this hc
  ·intro a b p e1 f e2 t n k hc;cases b with
   |zero=>omega
   |succ b=>
    rw[show i+(b+1)=i+1+b by omega]at hc⊢;cases a with
    |zero=>
     simp at n;obtain⟨rfl,rfl⟩:=n;exact k4 b f e2 (by simpa using k) hc
    |succ a=>
     rw[show i+(a+1)=i+1+a by omega]at hc⊢;exact r a b p e1 f e2 (by omega) (by simpa using n) (by simpa using k) hc
end
section
variable{P:dz}{ah:ed->Bool}{n:Nat}
def hx(N:Nat)(s:St):Heap:=s.heap++hC (N-s.heap.length) .hole
def vw(a:Nat)(e:aY):List Nat:=(e.aJ++newAt a e.aU).map (·.1)
theorem ato{N:Nat}{s:St}{e:aY}{o:Oper}(aJ:∀p∈e.aJ,p.1<s.heap.length)(d:(e.app o.dst s).heap.length<=N):hx N (e.app o.dst s)=bf (hx N s) (e.aJ++newAt s.heap.length e.aU):=by
 have b:(e.app o.dst s).heap=bf s.heap e.aJ++e.aU:=rfl;have f:(e.app o.dst s).heap.length=s.heap.length+e.aU.length:=by rw[b];simp[pN]
 unfold hx;rw[b];have c:N-s.heap.length=e.aU.length+(N-(s.heap.length+e.aU.length)):=by omega
 rw[c,<-List.replicate_append_replicate,<-hN,zg _ _ _ (by
  intro p a;rcases ip.1 a with a|a
  ·have:=aJ p a;simp;omega
  ·have:p.1∈(newAt s.heap.length e.aU).map (·.1):=List.mem_map_of_mem a
   rw[ub,I6]at this;simp;omega)]
 rw[Ck,zg _ _ _ aJ];have:=CB (bf s.heap e.aJ) e.aU;rw[pN]at this;rw[this];congr 2;simp[pN]
section sched
variable{ops:Array Oper}{es:List (St×aY)}{s0 s':St}
structure iV(P:dz)(n:Nat)(ops:Array Oper)(es:List (St×aY))(s':St):Prop where
 len:es.length=ops.size
 at_:∀k o,ops[k]?=some o->EF P n ops o (de es s' k) (fG es k)/\de es s' (k+1)=(fG es k).app o.dst (de es s' k)
 dst:∀o∈ops.toList,iU n o=true
 lower:∀j o,ops[j]?=some o->∀e∈o.after,hh .any e=true->e.on<j
 tmps:∀i j u o,i<j->ops[i]?=some u->ops[j]?=some o->rF ops u o=true->reach ops ops.size i j=true
 heap:∀i j,i<j->j<ops.size->je (gY i (de es s' i).heap.length (fG es i)) (gY j (de es s' j).heap.length (fG es j))=true->reach ops ops.size i j=true
def wr(a:List (St×aY))(s':St)(i:Nat):List Nat:=vw (de a s' i).heap.length (fG a i)
structure At(ops:Array Oper)(es:List (St×aY))(s':St)(D:Nat->Prop)(s:St):Prop where
 tmp:∀x,∃k,k<=ops.size/\aN s.env x=aN (de es s' k).env x/\∀i o,ops[i]?=some o->o.dst=some x->(D i↔i<k)
 len:s.heap.length=s'.heap.length
 heap:∀b,∃k,k<=ops.size/\s.heap[b]?=(hx s'.heap.length (de es s' k))[b]?/\∀i,i<ops.size->b∈wr es s' i->(D i↔i<k)
variable(h:iV P n ops es s')
include h
theorem iV.mono:∀{k m:Nat},k<=m->m<=ops.size->(de es s' k).heap.length<=(de es s' m).heap.length:=by
 intro k m e f
 induction m with
 |zero=>
  obtain rfl:k=0:=by omega
  exact i5 _
 |succ m c=>
  by_cases hk:k=m+1
  ·subst hk;exact i5 _
  ·have d:=c (by omega) (by omega);have b:ops[m]?=some ops[m]:=ck (by omega);obtain⟨_,a⟩:=h.at_ m _ b;rw[a];simp only[aY.app,hB,pN];omega
theorem iV.last:de es s' ops.size=s':=by
 have:es[ops.size]?=none:=hW (by rw[h.len];exact i5 _);simp[de,this]
theorem iV.yx{k:Nat}(hk:k<=ops.size):(de es s' k).heap.length<=s'.heap.length:=by
 have:=h.mono hk (i5 _)
 rwa [h.last]at this
theorem iV.gS{k:Nat}(hk:k<ops.size):hx s'.heap.length (de es s' (k+1))=bf (hx s'.heap.length (de es s' k)) ((fG es k).aJ++newAt (de es s' k).heap.length (fG es k).aU):=by
 have c:ops[k]?=some ops[k]:=ck hk;obtain⟨h1,b⟩:=h.at_ k _ c;have a:=h.yx (k:=k+1) hk;rw[b]at a⊢;exact ato h1.aJ a
theorem atl{k:Nat}(hk:k<=ops.size):(hx s'.heap.length (de es s' k)).length=s'.heap.length:=by
 have:=h.yx hk;simp[hx];omega
theorem iV.Ls{x:Nat}:∀{k m:Nat},k<=m->m<=ops.size->(∀i o,k<=i->i<m->ops[i]?=some o->o.dst≠some x)->aN (de es s' m).env x=aN (de es s' k).env x:=by
 intro k m j
 induction m with
 |zero=>
  intro _ _;obtain rfl:k=0:=by omega
  rfl
 |succ m g=>
  intro l d
  by_cases hk:k=m+1
  ·subst hk;rfl
  ·have e:=g (by omega) (by omega) (fun i o a b=>d i o a (by omega));have c:ops[m]?=some ops[m]:=ck (by omega);obtain⟨_,f⟩:=h.at_ m _ c;rw[f];simp only[aY.app,wT];rw[if_neg (d m _ (by omega) (by omega) c)];exact e
theorem iV.K0{b:Nat}:∀{k m:Nat},k<=m->m<=ops.size->(∀i,k<=i->i<m->b∉wr es s' i)->(hx s'.heap.length (de es s' m))[b]?=(hx s'.heap.length (de es s' k))[b]?:=by
 intro k m f
 induction m with
 |zero=>
  intro _ _;obtain rfl:k=0:=by omega
  rfl
 |succ m e=>
  intro g c
  by_cases hk:k=m+1
  ·subst hk;rfl
  ·have d:=e (by omega) (by omega) (fun i a b=>c i a (by omega));rw[h.gS (by omega),zG (c m (by omega) (by omega))];exact d
theorem iV.MI{x:Nat}{k m:Nat}(hk:k<=ops.size)(g:m<=ops.size)(f:∀i o,ops[i]?=some o->o.dst=some x->(i<k↔i<m)):aN (de es s' m).env x=aN (de es s' k).env x:=by
 rcases j4 k m with d|d
 ·exact h.Ls d g fun i o a b e c=>by have:=f i o e c;omega
 ·exact(h.Ls d hk fun i o a b e c=>by have:=f i o e c;omega).symm
theorem iV.Mt{b:Nat}{k m:Nat}(hk:k<=ops.size)(g:m<=ops.size)(f:∀i,i<ops.size->b∈wr es s' i->(i<k↔i<m)):(hx s'.heap.length (de es s' m))[b]?=(hx s'.heap.length (de es s' k))[b]?:=by
 rcases j4 k m with e|e
 ·exact h.K0 e g fun i a c d=>by have:=f i (by omega) d;omega
 ·exact(h.K0 e hk fun i a c d=>by have:=f i (by omega) d;omega).symm
variable{D:Nat->Prop}(hc:xP ops D)
include hc
theorem iV.order{i:Nat}{o:Oper}(k:ops[i]?=some o)(h:¬D i)(l:∀e∈o.after,hh .any e=true->D e.on):
 (∀j,j<i->reach ops ops.size j i=true->D j)/\(∀j,j<ops.size->i<j->reach ops ops.size i j=true->¬D j):=by
 constructor
 ·intro j g b;exact CC hc _ _ _ b (fun o' a=>by rw[k]at a;cases a;exact l)
 ·intro j m g b d;exact h (CC hc _ _ _ b (fun o' a e f c=>hc j o' a d e f c))
theorem iV.reads{i:Nat}{o:Oper}(l:ops[i]?=some o)(q:¬D i)(y:∀e∈o.after,hh .any e=true->D e.on){s:St}(t:At ops es s' D s):
 (∀x∈looks ops o,aN s.env x=aN (de es s' i).env x)/\(∀b,b∈(fG es i).ak.map (·.1)\/b∈wr es s' i->s.heap[b]?=(hx s'.heap.length (de es s' i))[b]?):=by
 obtain⟨v,w⟩:=h.order hc l q y;have hi:i<ops.size:=(b5.1 l).1;constructor
 ·intro x hx;obtain⟨k,k1,k2,k3⟩:=t.tmp x;rw[k2];refine h.MI (by omega) k1 fun j u m p=>?_;have g:j<ops.size:=(b5.1 m).1;rw[<-k3 j u m p];constructor
  ·intro a;refine v j a (h.tmps j i u o a m l ?_);simp[rF,p,hx]
  ·intro f;rcases i7 j i with a|rfl|a
   ·exact a
   ·exact(q f).elim
   ·exact(w j g a (h.tmps i j o u a l m (by simp[rF,p,hx])) f).elim
 ·intro b c;obtain⟨k,k1,k2,k3⟩:=t.heap b;rw[k2];refine h.Mt (by omega) k1 fun j g n=>?_;rw[<-k3 j g n];have r:b∈(gY j (de es s' j).heap.length (fG es j)).wr:=by
   unfold wr vw at n;rw[hL,ub]at n;exact n
  have d:b∈(gY i (de es s' i).heap.length (fG es i)).rd\/b∈(gY i (de es s' i).heap.length (fG es i)).wr:=by
   rcases c with c|c
   ·exact .inl c
   ·unfold wr vw at c;rw[hL,ub]at c;exact .inr c
  constructor
  ·intro a;refine v j a (h.heap j i a hi ?_);simp only[je,c6,hP,hO];exact .inl ⟨b,r,d⟩
  ·intro f;rcases i7 j i with a|rfl|a
   ·exact a
   ·exact(q f).elim
   ·refine(w j g a (h.heap i j a g ?_) f).elim;simp only[je,c6,hP,hO];rcases d with d|d
    ·exact .inr ⟨b,d,r⟩
    ·exact .inl ⟨b,d,.inr r⟩
theorem iV.next{i:Nat}{o:Oper}(l:ops[i]?=some o)(z:¬D i)(A:∀e∈o.after,hh .any e=true->D e.on){s:St}(p:At ops es s' D s):
 At ops es s' (fun j=>D j\/j=i) ⟨put o.dst (fG es i).v s.env,bf s.heap ((fG es i).aJ++newAt (de es s' i).heap.length (fG es i).aU)⟩:=by
 obtain⟨w,y⟩:=h.order hc l z A;have hi:i<ops.size:=(b5.1 l).1;obtain⟨B,gS⟩:=h.at_ i o l;refine⟨fun x=>?_,by simp only[pN];exact p.len,fun b=>?_⟩
 ·by_cases hx:o.dst=some x
  ·refine⟨i+1,hi,?_,fun j u d n=>?_⟩
   ·rw[gS];simp[aY.app,wT,hx]
   ·have g:j<ops.size:=(b5.1 d).1;constructor
    ·rintro(c|rfl)
     ·rcases i7 j i with a|rfl|a
      ·omega
      ·omega
      ·exact(y j g a (h.tmps i j o u a l d (by simp[rF,n,hx])) c).elim
     ·omega
    ·intro a
     by_cases q:j=i
     ·exact .inr q
     ·exact .inl (w j (by omega) (h.tmps j i u o (by omega) d l (by simp[rF,n,hx])))
  ·obtain⟨k,k1,k2,k3⟩:=p.tmp x;refine⟨k,k1,?_,fun j u d n=>?_⟩
   ·simp only[wT];rw[if_neg hx];exact k2
   ·rw[<-k3 j u d n];constructor
    ·rintro(c|rfl)
     ·exact c
     ·rw[l]at d;cases d;exact(hx n).elim
    ·exact .inl
 ·by_cases f:b∈wr es s' i
  ·refine⟨i+1,hi,?_,fun j g m=>?_⟩
   ·rw[h.gS hi];exact VT f _ _ (by rw[atl h (by omega)];exact p.len)
   ·have t:b∈(gY j (de es s' j).heap.length (fG es j)).wr:=by
     unfold wr vw at m;rw[hL,ub]at m;exact m
    have r:b∈(gY i (de es s' i).heap.length (fG es i)).wr:=by
     unfold wr vw at f;rw[hL,ub]at f;exact f
    constructor
    ·rintro(c|rfl)
     ·rcases i7 j i with a|rfl|a
      ·omega
      ·omega
      ·refine(y j g a (h.heap i j a g ?_) c).elim;simp only[je,c6,hP,hO];exact .inl ⟨b,r,.inr t⟩
     ·omega
    ·intro a
     by_cases q:j=i
     ·exact .inr q
     ·refine .inl (w j (by omega) (h.heap j i (by omega) hi ?_));simp only[je,c6,hP,hO];exact .inl ⟨b,t,.inr r⟩
  ·obtain⟨k,k1,k2,k3⟩:=p.heap b;refine⟨k,k1,?_,fun j g m=>?_⟩
   ·simp only;rw[zG f];exact k2
   ·rw[<-k3 j g m];constructor
    ·rintro(c|rfl)
     ·exact c
     ·exact(f m).elim
    ·exact .inl
end sched
end
end Go.ag
