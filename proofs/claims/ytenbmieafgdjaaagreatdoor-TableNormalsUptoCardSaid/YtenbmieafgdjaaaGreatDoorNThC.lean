import Derived.Test.YtenbmieafgdjaaaGreatDoorNThB
import Derived.Laws.StructEq
import Derived.Laws.Concat
import Derived.ChangeKeysEq
import Derived.MapKept
import Derived.Laws.RangeString
import Derived.Lib.UnsafeStr
import Derived.Laws.BytesArg
import Derived.Orders
/- Parts of a proof. -/
set_option linter.unusedSimpArgs false
set_option linter.unusedVariables false
set_option linter.unusedSectionVars false
open Array renaming getElem?_eq_some_iff->b4, ext'->b5, getElem?_toList->cb, length_toList->cc, getElem?_eq_getElem->ce, toList_push->ck, getElem?_push->cv, getD->cx
open Bool renaming or_eq_true->cy, false_eq_true->c6, and_eq_true->c9
open Go renaming run_underlying->da, Operand->db, TypeId->dg, Value->dk, execOp->dl, World->dp, Program->dq, MapEntry->dz, setRow_other->ea, setRow_heap->eb, FuncId->ec, Field->ed, step_leave_returned->ee, run_storeCells_at->ei, TypeDesc->ej, IntKind->em, Frame->en
open Go.Builtin renaming firstCells->eo, clear_->eq, unsafeString_->ew, zeroCells->e6, copy_->e7, min2->e8, max2->e9, unsafeSliceData_->fb, min_->fd, max_->fl, lenOf->fm, cap_->fv
open Go.ByteArray renaming toList_eq->fI
open Go.Call renaming operands->ga
open Go.Instr renaming findNow->gb, findAsking->gc, checkKey->ge, findKey->gg, mapUpdate->gi, lookup->gj, sameNow->gl, next->gm
open Go.MapKept renaming run_getObj_map->gt, bytes_beq->gx
open Go.Op renaming operands->gy, equalIn->g0, equal->g7, bytesLess->g8, eqFields->g9, eqItems->ha, stringOp->hb
open Go.Region renaming wanted->hd, binds->he
open Go.Result renaming andThen_ok->hg, andThen->hh
open Go.Sem renaming run_bind->hj, run_pure->hm, run->hn
open Go.Utf8 renaming decode->ho
open Go.Value renaming oneCell'->hp, int->hr
open Go.World renaming freeze->ht, cell?->hv
open List renaming getElem?_eq_some_iff->hw, getElem?_set_self->hz, length_append->hA, replicate->hB, map_cons->hC, append_nil->hD, mem_cons->hE, mem_cons_of_mem->hF, getElem?_set_ne->hG, mem_of_mem_take->hH, map_append->hJ, size_toArray->hK, append_assoc->hL, contains_iff_mem->hM, any_eq_true->hN, mem_of_mem_drop->hO, map_toArray->hP, length_eq_zero_iff->hQ, take_of_length_le->hR, map_nil->hS, map_map->hT, getElem?_eq_none->hU, replicate_succ->hV, map_congr_left->hW, length_pos_iff->hX, flatten_append->hZ, mem_singleton->h0, getElem?_map->h2, length->h3, nil_append->h4, drop_zero->h5, getElem?_append_left->h6, getElem?_eq_getElem->h7, map->h8, take_succ_cons->h9, all_eq_true->ih, mem_append->ii, length_map->ik, sum_cons->ip, mem_map->ix, map_id->iz, range->i0
open Nat renaming le_refl->i4, lt_irrefl->i5, lt_trichotomy->i6, add_zero->i7, le_add_right->i8, zero_add->i9, add_mul->jp, zero_mul->js, succ_mul->j1, ne_of_lt->j2, le_total->j3
open Option renaming isSome_iff_exists->j4
open PUnit renaming unit->j5
open UInt8 renaming toNat_ofNat'->j6, toNat_inj->j7, ofNat->j8
namespace Go.au
set_option linter.unusedSectionVars false
variable[Gl]
section
variable{P:dq}{w:dp}{aa ah:Nat->Prop}{β:Bd}{H:Heap}
variable{o:Oper}{ρ:db->AV}{base:Nat}
theorem v8{c:Call}{s x:db}(C:o.op= .call c)(hc:c.callee= .builtin .append)(v:c.args.toList=[s,x]){T X e:dg}(G:c.argTypes=#[T,X]){i:TypeInfo}{j:dk}{sz:Nat}(t:pz P T sz e i)(u:ib P X=true)
 (K:i.zero=some j)(L:j.cells.size=sz)(E:bQ P w aa β H ah){g:db->dk}{p:Option Addr}{b f:Nat}{olds a:List AV}{ocss:List (List dk)}(hs:g s=.slice p b f)(ct:olds.length=b)(l:Row P w aa β H sz olds ocss)(D:aP (aH H) olds)
 (B:(eo sz b (.slice p b f)).run P w.drew=.ok ocss.flatten.toArray w.drew)
 (hx:gA H (ρ x)=some a)(J:ar P w aa β H (ρ x) (g x))(I:aB (aH H) (ρ x))(F:dV P sz a)(z:f<b+a.length)(A:b+a.length<=cT):
 ∃cap cells d M,(dl g o).run P w=.ok (.value (.slice (some ⟨w.heap.size,0,none⟩) (b+a.length) cap)) {w.drew with heap:=w.heap.push (.cells cells e)}/\
  Row P w aa β H sz (olds++a) d/\aP (aH H) (olds++a)/\cells.toList=d.flatten++M/\cells.size=cap*sz/\(olds++a).length<=cap:=by
 obtain⟨d,h,n,q,r⟩:=uz hx E J I F;have k:=r w.drew rfl a.length (i4 _);have N:d.length=a.length:=(fA h).1;rw[hR (by omega)]at k;obtain⟨cap,y,m⟩:=Tq t u K o.type (sLen:=b) (sCap:=f) (p:=p) (g x) q B k z A;rw[<-G,<-hs]at m;refine⟨cap,_,ocss++d,(e6 j.cells (cap-(b+a.length))).toList,wF C hc v m,ky.2 ⟨_,_,rfl,l,h⟩,jr D n,by simp,?_,by simpa[ct]using y⟩;have e1:=(fA l).2;have e2:=(fA h).2;simp only[Array.size_append,hK,GQ,L,e1,e2,ct,<-jp];congr 1;omega
theorem sH{T:dg}:gk P T≠.frozen/\gk P T≠.exact:=by
 unfold gk;split<;>simp
theorem CZ{T e:dg}(h:dQ P T=e)(hk:gk P T=.bytes):e=Gl.u8:=by
 unfold gk at hk
 split at hk
 ·rename_i a;rw[<-h];exact a
 ·cases hk
theorem AX{_o':Obj}{k:AK}{a:List AV}{b:List (List dk)}{r:List dk}{cells:Array dk}{e:dg}{cap sz:Nat}(j:bQ P w aa β H ah)(c:H[base]?=some .hole)
 (g:k≠.frozen)(i:¬c8 k a)(m:Row P w aa β H sz a b)(d:aP (aH H) a)(hc:cells.toList=b.flatten++r)(o:cells.size=cap*sz)(h:a.length<=cap)(f:k=.exact->cap=a.length)(p:k=.bytes->e=Gl.u8):
 bU P ah aa w β H aa {w.drew with heap:=w.heap.push (.cells cells e)} (β.at base w.heap.size cap) (bd H ([]++newAt base [.arr k 0 sz a]))/\
 ar P {w.drew with heap:=w.heap.push (.cells cells e)} aa (β.at base w.heap.size cap) (bd H ([]++newAt base [.arr k 0 sz a])) (.sl base 0 sz 0 a.length) (.slice (some ⟨w.heap.size,0,none⟩) a.length cap)/\
 aB (aH (bd H ([]++newAt base [.arr k 0 sz a]))) (.sl base 0 sz 0 a.length):=by
 have l:bQ P w.drew aa β H ah:=bQ.uk (w:=w) (w':=w.drew) rfl j;have n:Row P w.drew aa β H sz a b:=Row.mono (w:=w) (w':=w.drew) (fun _ x=>x) (fun _ _=>rfl) (b8.refl _ _) d m;obtain⟨q1,q⟩:=wW (T:=e) (k:=k) l c g i n d hc o h f p;rw[kX];exact⟨bU.drew (w1:=w.drew) rfl ⟨rfl,rfl⟩ q1,q,⟨_,hz (hw.1 c).1,i4 _⟩⟩
theorem Jd{b:Nat}{k k':AK}{al ai:Nat}{i es':List AV}{ak cap:Nat}(f:H[b]?=some (.arr k al ai i)):b8 β H (β.at b ak cap) (H.set b (.arr k' (al+1) ai es')):=by
 have j:b<H.length:=(hw.1 f).1;have c:∀x,x≠b->(H.set b (.arr k' (al+1) ai es'))[x]?=H[x]?:=fun x hx=>hG (Ne.symm hx);have a:(H.set b (.arr k' (al+1) ai es'))[b]?=some (.arr k' (al+1) ai es'):=hz j;refine⟨?_,?_,?_,?_,?_⟩
 ·rintro x _ ⟨fz,t,h⟩
  by_cases hx:x=b
  ·subst hx;rw[a]at h;cases h
  ·rw[c x hx]at h;exact⟨⟨fz,t,h⟩,by simp[Bd.at,hx]⟩
 ·rintro x _ ⟨fz,t,h⟩
  by_cases hx:x=b
  ·subst hx;rw[a]at h;cases h
  ·rw[c x hx]at h;exact⟨⟨fz,t,h⟩,by simp[Bd.at,hx]⟩
 ·rintro x _ ⟨n,h,e⟩
  by_cases hx:x=b
  ·subst hx;rw[a]at h;cases h;exact e.elim
  ·rw[c x hx]at h;exact⟨⟨n,h,e⟩,by simp[Bd.at,hx]⟩
 ·intro x v z m g hi h;unfold ez at h
  by_cases hx:x=b
  ·subst hx;rw[a]at h;cases h;obtain⟨o,d,l⟩:=hi;simp only at d;rw[f]at d;cases d;simp only[Obj.has]at l;omega
  ·rw[c x hx]at h;exact⟨m,g,h,i4 _,Iff.rfl,fun _=>by simp[Bd.at,hx]⟩
 ·rintro x _ ⟨L,h⟩
  by_cases hx:x=b
  ·subst hx;rw[a]at h;cases h
  ·rw[c x hx]at h;exact⟨⟨L,h⟩,by simp[Bd.at,hx]⟩
theorem Bd.T9(β:Bd)(b:Nat):β.at b (β.ak b) (β.cap b)=β:=by
 cases β with
 |mk ak cap=>
  simp only[Bd.at,Bd.mk.injEq];constructor
  ·funext x;split
   ·rename_i h;rw[h]
   ·rfl
  ·funext x;split
   ·rename_i h;rw[h]
   ·rfl
theorem Aa{α:Type}(A M Z X:List α):(A++M++Z).take A.length++X++(A++M++Z).drop (A.length+M.length)=A++X++Z:=by
 rw[hL A M Z,List.take_left,<-hL,<-hA,List.drop_left]
theorem TM{c:Call}{s x:db}(W:o.op= .call c)(hc:c.callee= .builtin .append)(V:c.args.toList=[s,x])(bT:c.argTypes.size=2){H0:Heap}{K:aU->Prop}
 (h:mY P (c.argTypes.getD 0 0) (c.argTypes.getD 1 0) H0 (ρ s) (ρ x) K):
 ∃e,K e/\bh P o ρ H0.length e/\(∀p∈e.aj,H0[p.1]?=some p.2)/\(∀p∈e.aK,p.1<H0.length/\p.2≠.hole):=by
 obtain⟨T,X,R⟩:∃T X,c.argTypes=#[T,X]:=by
  obtain⟨l,hl⟩:∃l,l=c.argTypes.toList:=⟨_,rfl⟩
  have ae:l.length=2:=by rw[hl];simpa using bT
  match l,ae with
  |[a,b],_=>exact⟨a,b,by apply b5;simp[<-hl]⟩
 have B:s∈o.op.operands/\x∈o.op.operands:=by
  have bE:c.args=#[s,x]:=by apply b5;simpa using V
  rw[W];simp[gy,ga,hc,bE]
 have e1:c.argTypes.getD 0 0=T:=by rw[R];rfl
 have e2:c.argTypes.getD 1 0=X:=by rw[R];rfl
 rw[e1,e2]at h;unfold mY at h
 split at h
 case h_2=>exact h.elim
 rename_i sz g F hx;obtain⟨af,a7,am,h⟩:=h;obtain⟨e,i,F⟩:=jH F;obtain⟨z,a7⟩:=j4.1 a7;obtain⟨b2,bZ,be,z2,z3,z4⟩:=n6 a7;rw[F.ph]at be z4;rw[F.info]at be;cases be;have aV:bZ.cells.size=sz:=by
  obtain⟨_,i2,k1,k2⟩:=wo (v:=.p z) (w:=default) (aa:=fun _=>False) (β:=⟨id,id⟩) (H:=[]) z4 (by simp only[bf];exact z3 _ _);rw[F.info]at k1;cases k1;have:=F.size;simp at k2;omega
 have a9:∀{aj:List (Nat×Obj)},(∀p∈dx H0 (ρ x),p∈aj)->(∀p∈aj,H0[p.1]?=some p.2)->g=[]->(∀(H:Heap)(w:dp)(aa ah:Nat->Prop)(β:Bd)(v:dk),bQ P w aa β H ah->(∀p∈aj,H[p.1]?=some p.2)->ar P w aa β H (ρ s) v->∃p a b,v= .slice p a b/\a<=b)->
  bh P o ρ H0.length {v:=ρ s,aj}:=by
  intro aj bS av bV bP;subst bV;refine bh.same fun H w aa ah β au f j aj=>?_;obtain⟨p,a,b,u,bD⟩:=bP H w aa ah β _ f aj (j s B.1).1;obtain⟨E,C,ae,bA,bB⟩:=uz (oX hx (fun p u=>aj p (bS p u))) f (j x B.2).1 (j x B.2).2 am;have bk:=bB w rfl 0 (i4 _);simp only[List.take_zero,List.flatten_nil]at bk;have Q:=Sl F af o.type (p:=p) (sLen:=a) (sCap:=b) _ bA bk bD;rw[<-R,<-u]at Q;exact⟨_,wF W hc V Q,by rw[u];exact u▸(j s B.1).1,(j s B.1).2⟩
 have a8:∀l:List AV,l.isEmpty=true->l=[]:=fun l h=>by simpa using h
 split at h
 ·
  rename_i hs
  split at h
  ·rename_i G;refine⟨_,h,?_,mO,by simp⟩;exact a9 (fun p u=>u) mO (a8 _ G) (fun H w aa ah β v _ _ A=>by rw[hs]at A;simp only[ar,aw]at A;exact⟨_,_,_,A,i4 _⟩)
  ·rename_i G;obtain⟨bp,h⟩:=h;refine⟨_,h,?_,mO,by simp⟩;intro H w aa ah β au f j aj aF;have ag:H[H0.length]?=some .hole:=by simpa using aF 0 (by simp)
   have O:=(j s B.1).1;rw[hs]at O;simp only[ar,aw]at O;have br:0<g.length:=hX.2 (by simpa using G);obtain⟨cap,cells,E,D,ab,an,ac,ao,ap,aq⟩:=v8 W hc V R F af z2 aV f O (olds:=[]) (ocss:=[]) rfl (gR.2 rfl) (by simp[aP]) (by simp[eo])
    (oX hx aj) (j x B.2).1 (j x B.2).2 am (by omega) (by omega)
   obtain⟨q1,Y,Z⟩:=AX (base:=H0.length) (k:=gk P T) (e:=e) (_o':=.hole) f ag sH.1 (fun q=>G (by simpa using q.2)) an ac ao ap aq (fun h=>(sH.2 h).elim) (CZ F.ph);simp only[h4,i9]at ab q1 Y Z;exact⟨_,_,_,_,aa,ab,.inl rfl,q1,Y,Z⟩
 ·
  rename_i full d hs;obtain⟨bF,h⟩:=h
  have O:∀{H:Heap}{w:dp}{aa:Nat->Prop}{β:Bd}{v:dk},ar P w aa β H (ρ s) v->∃p c M,v= .slice p d.length c/\d.length<=c/\(full=true->c=d.length)/\Row P w aa β H sz (d.map .p) M/\
   (∀w':dp,w'.heap=w.heap->(eo sz d.length v).run P w'=.ok M.flatten.toArray w'):=by
   intro H w aa β v A;rw[hs]at A;simp only[ar,aw]at A;obtain⟨ak,off,cap,ai,E,v1,v2,v3,v4,v5,sp,bR,rfl⟩:=A;rcases bR with rfl|rfl
   case inr=>
    obtain rfl:d=[]:=hQ.1 (by omega);exact⟨_,_,[],rfl,by simp,by simp,gR.2 rfl,fun w' _=>zW⟩
   have aL:Row P w aa β H ai (d.map .p) E:=ly.2 v1;have bv:Row P w aa β H sz (d.map .p) E:=by
    by_cases bq:d.map AV.p=[]
    ·rw[bq]at aL⊢;rw[gR]at aL⊢;exact aL
    ·rw[<-rQ aL bF bq];exact aL
   refine⟨_,_,E,rfl,v5,v4,bv,fun w' a6=>tN (by have:=(fA bv).2;simpa using this) (v3.same (by rw[a6]))⟩
  split at h
  ·rename_i G;refine⟨_,h,?_,mO,by simp⟩;exact a9 (fun p u=>u) mO (a8 _ G) (fun H w aa ah β v _ _ A=>by obtain⟨p,c,_,C,ae,_⟩:=O A;exact⟨p,_,c,C,ae⟩)
  ·rename_i G;obtain⟨hf,bp,h⟩:=h;refine⟨_,h,?_,mO,by simp⟩;intro H w aa ah β au f j aj aF;have ag:H[H0.length]?=some .hole:=by simpa using aF 0 (by simp)
   have br:0<g.length:=hX.2 (by simpa using G);obtain⟨p,cp,M,s1,s2,bX,bY,bz⟩:=O (j s B.1).1;rw[s1]at bz;obtain⟨cap,cells,E,D,ab,an,ac,ao,ap,aq⟩:=v8 W hc V R F af z2 aV f s1 (olds:=d.map .p) (by simp) bY (iM _ _) (bz w.drew rfl)
    (oX hx aj) (j x B.2).1 (j x B.2).2 am (by have:=bX hf;omega) (by omega)
   obtain⟨q1,Y,Z⟩:=AX (base:=H0.length) (k:=gk P T) (e:=e) (_o':=.hole) f ag sH.1 (fun q=>G (by have:=q.2;simp at this;simp[this.2])) an ac ao ap aq (fun h=>(sH.2 h).elim) (CZ F.ph);simp only[hA,ik]at Y Z;exact⟨_,_,_,_,aa,ab,.inl rfl,q1,Y,Z⟩
 ·
  rename_i b al ai off len hs
  split at h
  case h_2=>exact h.elim
  rename_i k b3 b0 d a4;obtain⟨rfl,rfl,rfl,hlen,h⟩:=h;have av:∀p∈(b,Obj.arr k al ai d)::dx H0 (ρ x),H0[p.1]?=some p.2:=by
   intro p u;rcases hE.1 u with rfl|u
   ·exact a4
   ·exact mO p u
  have O:∀{H:Heap}{w:dp}{aa ah:Nat->Prop}{β:Bd}{v:dk},bQ P w aa β H ah->H[b]?=some (.arr k al ai d)->ar P w aa β H (ρ s) v->
   (c8 k d/\v=.slice none 0 0/\len=0)\/(¬c8 k d/\v=.slice (some ⟨β.ak b,off*ai,none⟩) len (β.cap b-off)/\
   ∃cs T E D,w.heap[β.ak b]?=some (.cells cs T (0,0))/\Row P w aa β H ai d E/\cs.toList=E.flatten++D/\
   cs.size=β.cap b*ai/\d.length<=β.cap b/\(k=.exact->β.cap b=d.length)/\cB aa β ah (k== .frozen) b/\(k=.bytes->T=Gl.u8)):=by
   intro H w aa ah β v f t A;rw[hs]at A;simp only[ar,bI,bO]at A;obtain⟨_,v2,v3⟩:=A.2 k d t
   by_cases q:c8 k d
   ·exact .inl ⟨q,v2 q,by have:=q.2;subst this;simp at hlen;omega⟩
   ·rcases f.cF b _ t with hold|⟨cs,N,E,D,k1,k2,k3,k4,k5,k6,k7,k8⟩
    ·exact(q hold).elim
    ·exact .inr ⟨q,v3 q,cs,N,E,D,k1,k2,k3,k4,k5,k6,k7,k8.2⟩
  have holds:∀{H:Heap}{w:dp}{aa:Nat->Prop}{β:Bd}{cs:Array dk}{N:dg}{E:List (List dk)}{D:List dk},w.heap[β.ak b]?=some (.cells cs N (0,0))->Row P w aa β H ai d E->cs.toList=E.flatten++D->
   ∃M,Row P w aa β H ai ((d.drop off).take len) M/\∀(w':dp)(n c:Nat),w'.heap=w.heap->(eo ai len (.slice (some ⟨β.ak b,off*ai,none⟩) n c)).run P w'=.ok M.flatten.toArray w':=by
   intro H w aa β cs N E D k1 k2 k3;obtain⟨a,m,z,g1,g2,g3,g4,g5⟩:=jt k2 off len hlen;refine⟨m,g2,fun w' n c a6=>tN (by have:=(fA g2).2;rw[this];congr 1;simp;omega) ?_⟩;have:=lg k1 (pre:=a.flatten) (xs:=m.flatten) (post:=z.flatten++D) (by rw[k3,g1];simp);rw[g3]at this;exact this.same (by rw[a6])
  split at h
  ·rename_i G;refine⟨_,h,?_,av,by simp⟩;refine a9 (fun p u=>hF _ u) av (a8 _ G) (fun H w aa ah β v f aj A=>?_);rcases O f (aj (b,_) (by simp)) A with⟨_,C,_⟩|⟨q,C,cs,N,E,D,ae⟩
   ·exact⟨_,_,_,C,i4 _⟩
   ·exact⟨_,_,_,C,by omega⟩
  ·rename_i G;have br:0<g.length:=hX.2 (by simpa using G);obtain⟨bp,h⟩:=h
   split at h
   ·exact h.elim
   ·
    split at h
    ·rename_i ay;refine⟨_,h,?_,av,by simpa using(hw.1 a4).1⟩;intro H w aa ah β au f j aj _;have t:H[b]?=some (.arr .exact al ai d):=aj (b,_) (by simp);rcases O f t (j s B.1).1 with⟨q,_⟩|⟨q,C,cs,N,E,D,k1,k2,k3,k4,k5,k6,k7,k8⟩
     ·cases q.1
     obtain⟨J,U,ba,bb,bc⟩:=uz (oX hx (fun p u=>aj p (hF _ u))) f (j x B.2).1 (j x B.2).2 am;have aN:=bc w rfl g.length (i4 _);rw[hR (by have:=(fA U).1;omega)]at aN;have bn:=k6 rfl;obtain⟨a,m,ad,g1,g2,g3,g4,g5⟩:=jt k2 (off+len) g.length ay;have az:=(fA U).2;have ax:m.flatten.length=g.length*ai:=by have:=(fA g2).2;rw[this];congr 1;simp;omega
     have aO:cs.toList=a.flatten++m.flatten++(ad.flatten++D):=by rw[k3,g1];simp
     have bm:a.flatten.length=off*ai+len*ai:=by rw[g3,jp]
     have bw:cs.size=a.flatten.length+m.flatten.length+(ad.flatten++D).length:=by
      have:=congrArg h3 aO;simp only[hA,cc]at this;rw[this,hA]
     have Q:=GP F af o.type (sLen:=len) (sCap:=β.cap b-off) _ bb k1 aN (uH U) (by omega) (by rw[az,bw,bm,ax];exact i8 _ _);rw[<-R,<-C]at Q;have aS:cs.toList.take (off*ai+len*ai)++J.flatten++cs.toList.drop (off*ai+len*ai+J.flatten.length)=a.flatten++J.flatten++(ad.flatten++D):=by
      rw[aO,<-bm,az,<-ax];exact Aa _ _ _ _
     rw[aS]at Q;have aI:b8 β H β (H.set b (.arr .exact al ai (d.take (off+len)++g++d.drop (off+len+g.length)))):=om t (.inr (.inl ⟨_,_,_,_,_,rfl,rfl,by simp;omega⟩));have aE:¬aa (β.ak b)/\¬ah (β.ak b):=by
      unfold cB at k7;rw[if_neg (by simp)]at k7;exact k7
     have a5:∀I,aa I->(w.setRow (β.ak b) (a.flatten++J.flatten++(ad.flatten++D)).toArray).heap[I]?=w.heap[I]?:=fun I a1=>ea w _ I _ (fun a0=>aE.1 (a0▸a1));have hrefs:aP (aH H) (d.take (off+len)++g++d.drop (off+len+g.length)):=by
      have bs:=b9.1 (f.refs b _ t);refine jr (jr ?_ ba) ?_
      ·rw[b9];exact fun v A=>bs v (hH A)
      ·rw[b9];exact fun v A=>bs v (hO A)
     have aQ:=lA t (o:=.arr .exact al ai (d.take (off+len)++g++d.drop (off+len+g.length))) (fun _ h=>h);have a2:(d.take (off+len)++g++d.drop (off+len+g.length)).length=d.length:=by simp;omega
     have aK:=pq f t q (o':=.arr .exact al ai (d.take (off+len)++g++d.drop (off+len+g.length))) (fun S=>by cases S.1) (fun _ h=>h) k1 (new:=(a.flatten++J.flatten++(ad.flatten++D)).toArray) aE aI
      (.inr ⟨_,N,a++J++ad,D,eb w _ _ _ N _ k1,by
       refine Row.mono (fun _ x=>x) a5 aI hrefs (ky.2 ⟨_,_,rfl,ky.2 ⟨_,_,rfl,g4,U⟩,g5⟩),by simp,by
       rw[<-k4,bw];simp only[hK,hA,az,ax],by rw[a2];exact k5,fun _=>by rw[a2];exact bn,k7,(fun aR=>by cases aR),k8⟩) (aP.mono aQ _ hrefs)
     refine⟨_,_,_,β,aa,wF W hc V Q,.inl rfl,aK,?_,?_⟩
     ·simp only[ar,bI,bO,bd,newAt,hD];refine⟨by simp[hp],fun I bi hl=>?_⟩;unfold ez at hl;rw[hz (hw.1 t).1]at hl;cases hl;exact⟨by rw[a2];omega,(fun S=>by cases S.1),fun _=>trivial⟩
     ·simp only[aB];exact⟨_,hz (hw.1 t).1,i4 _⟩
    ·rename_i ay;refine⟨_,h,?_,av,by simp⟩;intro H w aa ah β au f j aj aF;have ag:H[H0.length]?=some .hole:=by simpa using aF 0 (by simp)
     have t:H[b]?=some (.arr .exact al ai d):=aj (b,_) (by simp);rcases O f t (j s B.1).1 with⟨q,_⟩|⟨q,C,cs,N,E,D,k1,k2,k3,k4,k5,k6,k7,k8⟩
     ·cases q.1
     have bn:=k6 rfl;obtain⟨M,aM,aW⟩:=holds k1 k2 k3;have bo:((d.drop off).take len).length=len:=by simp;omega
     obtain⟨cap,cells,bg,bx,ab,an,ac,ao,ap,aq⟩:=v8 W hc V R F af z2 aV f C (olds:=(d.drop off).take len) bo aM
      (by rw[b9];exact fun v A=>b9.1 (f.refs b _ t) v (hO (hH A))) (aW w.drew _ _ rfl)
      (oX hx (fun p u=>aj p (hF _ u))) (j x B.2).1 (j x B.2).2 am (by omega) (by omega)
     obtain⟨q1,Y,Z⟩:=AX (base:=H0.length) (k:=gk P T) (e:=e) (_o':=.hole) f ag sH.1 (fun q=>G (by have:=q.2;simp at this;simp[this.2])) an ac ao ap aq (fun h=>(sH.2 h).elim) (CZ F.ph);rw[hA,bo]at Y Z;exact⟨_,_,_,_,aa,ab,.inl rfl,q1,Y,Z⟩
   ·
    rename_i bH bJ;obtain⟨rfl,bK,h⟩:=h;have aG:k≠.frozen:=fun e=>bH e;have aR:k≠.exact:=fun e=>bJ e;have b1:(k==AK.frozen)=false:=by simpa using aG
    refine⟨_,h,?_,av,by simpa using(hw.1 a4).1⟩;intro H w aa ah β au f j aj _;have t:H[b]?=some (.arr k al ai d):=aj (b,_) (by simp);have aA:b<H.length:=(hw.1 t).1;have aT:(d.take len).length=len:=by simp;omega
    have bu:aP (aH H) (d.take len):=by rw[b9];exact fun v A=>b9.1 (f.refs b _ t) v (hH A)
    have a3:¬c8 k (d.take len++g):=fun S=>G (by have:=S.2;simp at this;simp[this.2]);have aQ:=lA t (o:=.arr k (al+1) ai (d.take len++g)) (fun v h=>by simp only[Obj.has]at h⊢;omega)
    have bj:∀(p:Option Addr)(aY:Nat)(M:List (List dk)),au s= .slice p len aY->Row P w aa β H ai (d.take len) M->(eo ai len (.slice p len aY)).run P w.drew= .ok M.flatten.toArray w.drew->aY<len+g.length->
     ∃n aZ w' aJ aD,(dl au o).run P w=.ok n w'/\(n=.value aZ\/n=.skip/\aZ=undef)/\
      bU P ah aa w β H aD w' aJ (H.set b (.arr k (al+1) ai (d.take len++g)))/\ar P w' aD aJ (H.set b (.arr k (al+1) ai (d.take len++g))) (.sl b (al+1) ai 0 (len+g.length)) aZ/\
      aB (aH (H.set b (.arr k (al+1) ai (d.take len++g)))) (.sl b (al+1) ai 0 (len+g.length)):=by
     intro p aY M C bM bL bG;obtain⟨cap,cells,bg,bx,ab,an,ac,ao,ap,aq⟩:=v8 W hc V R F af z2 aV f C (olds:=d.take len) aT bM bu bL
      (oX hx (fun p u=>aj p (hF _ u))) (j x B.2).1 (j x B.2).2 am bG (by omega)
     have aI:=Jd (β:=β) (k':=k) (es':=d.take len++g) (ak:=w.heap.size) (cap:=cap) t;have aK:bU P ah aa w β H aa {w.drew with heap:=w.heap.push (.cells cells e)} (β.at b w.heap.size cap) (H.set b (.arr k (al+1) ai (d.take len++g))):=by
      refine bU.set f aA (fun y bW=>by simp[Bd.at,bW]) (fun _ y=>y) (fun _ y=>.inl y) (fun k hk=>by have:=f.bR k hk;simp;omega) (by simp)
       (fun k _ hk=>by simp[cv,j2 hk]) (fun _=>.inl (by simp[Bd.at])) aI
       (.inr ⟨cells,e,bg,bx,by simp[Bd.at],Row.mono (fun _ y=>y) (fun k hk=>by have:=f.bR k hk;simp[cv,j2 this]) aI ac an,ao,by simp[Bd.at,ap],by simpa[Bd.at]using aq,(fun aC=>(aR aC).elim),by
        unfold cB;rw[if_neg (by simpa using aG)];simp only[Bd.at,if_true];exact⟨fun h=>i5 _ (f.bR _ h),fun h=>i5 _ (f.dT _ h)⟩,(fun aC=>(aG aC).elim),fun ag=>F.ph▸bK ag⟩)
       (aP.mono aQ _ ac) (fun aM v C ae=>by rw[t]at C;cases C;simp only[Obj.has]at ae⊢;omega) (fun L bl=>by rw[t]at bl;cases bl)
     refine⟨_,_,_,_,aa,ab,.inl rfl,aK,?_,?_⟩
     ·simp only[ar,bI,bO];refine⟨by simp[hp],fun I bi hl=>?_⟩;unfold ez at hl;rw[hz aA]at hl;cases hl;exact⟨by rw[hA,aT];omega,fun S=>(a3 S).elim,fun _=>by simp[Bd.at]⟩
     ·simp only[aB];exact⟨_,hz aA,i4 _⟩
    simp only[bd,newAt,hD];rcases O f t (j s B.1).1 with⟨q,C,rfl⟩|⟨q,C,cs,N,E,D,k1,k2,k3,k4,k5,k6,k7,k8⟩
    ·exact bj none 0 [] C (by simp[gR]) (by simp[eo]) (by omega)
    ·simp only[js,Nat.sub_zero]at C
     by_cases ay:len+g.length<=β.cap b
     ·
      obtain⟨J,U,ba,bb,bc⟩:=uz (oX hx (fun p u=>aj p (hF _ u))) f (j x B.2).1 (j x B.2).2 am;have aN:=bc w rfl g.length (i4 _);rw[hR (by have:=(fA U).1;omega)]at aN;obtain⟨a,m,ad,g1,g2,g3,g4,g5⟩:=jt k2 0 len hlen;have bC:a=[]:=by have:=(fA g4).1;simpa using this
      subst bC;have az:=(fA U).2;have ax:m.flatten.length=len*ai:=by have:=(fA g2).2;rw[this];congr 1
      have aO:cs.toList=m.flatten++(ad.flatten++D):=by rw[k3,g1];simp
      have bN:=Nat.mul_le_mul_right ai ay;rw[jp]at bN;have Q:=GP F af o.type (off:=0) (sLen:=len) (sCap:=β.cap b) _ bb k1 aN (uH U) ay (by rw[az,k4];omega);rw[<-R,<-C]at Q;obtain⟨aX,bt⟩:∃r,r=cs.toList.drop (len*ai+J.flatten.length):=⟨_,rfl⟩
      have aS:cs.toList.take (0+len*ai)++J.flatten++cs.toList.drop (0+len*ai+J.flatten.length)=(m++J).flatten++aX:=by
       rw[i9,<-bt];congr 1;rw[aO,<-ax];simp
      rw[aS]at Q;have aE:¬aa (β.ak b)/\¬ah (β.ak b):=by
       unfold cB at k7;rw[if_neg (by simpa using aG)]at k7;exact k7
      have aI:b8 β H β (H.set b (.arr k (al+1) ai (d.take len++g))):=by
       have:=Jd (β:=β) (k':=k) (es':=d.take len++g) (ak:=β.ak b) (cap:=β.cap b) t
       rwa [Bd.T9]at this
      have a5:∀I,aa I->(w.setRow (β.ak b) ((m++J).flatten++aX).toArray).heap[I]?=w.heap[I]?:=fun I a1=>ea w _ I _ (fun a0=>aE.1 (a0▸a1));have hrefs:aP (aH H) (d.take len++g):=jr bu ba;have aK:=pq f t q (o':=.arr k (al+1) ai (d.take len++g)) a3 (fun v h=>by simp only[Obj.has]at h⊢;omega) k1 (new:=((m++J).flatten++aX).toArray) aE aI
       (.inr ⟨_,N,m++J,aX,eb w _ _ _ N _ k1,by
        refine Row.mono (fun _ x=>x) a5 aI hrefs (ky.2 ⟨_,_,rfl,?_,U⟩);simpa using g2,by simp,by
        rw[<-k4];simp only[hK,hA,hZ,az,ax,bt,List.length_drop,cc,k4];omega,by rw[hA,aT];exact ay,(fun aC=>(aR aC).elim),k7,(fun h=>(aG h).elim),k8⟩) (aP.mono aQ _ hrefs)
      refine⟨_,_,_,β,aa,wF W hc V Q,.inl rfl,aK,?_,?_⟩
      ·simp only[ar,bI,bO];refine⟨by simp[hp],fun I bi hl=>?_⟩;unfold ez at hl;rw[hz aA]at hl;cases hl;exact⟨by rw[hA,aT];omega,fun S=>(a3 S).elim,fun _=>by simp⟩
      ·simp only[aB];exact⟨_,hz aA,i4 _⟩
     ·obtain⟨M,aM,aW⟩:=holds k1 k2 k3;simp only[h5,js]at aM aW;exact bj _ _ M C aM (aW w.drew _ _ rfl) (by omega)
 ·exact h.elim
end
section
variable{P:dq}{w:dp}{aa ah:Nat->Prop}{β:Bd}{H:Heap}
variable{o:Oper}{ρ:db->AV}{base:Nat}
def iD(bs:ByteArray):List Nat:=bs.data.toList.map (·.toNat)
theorem zZ:∀{a b:List UInt8},a.map (·.toNat)=b.map (·.toNat)->a=b
 |[],[],_=>rfl
 |[],_::_,h=>by simp at h
 |_::_,[],h=>by simp at h
 |x::a,y::b,h=>by
  simp at h;rw[j7.1 h.1,zZ h.2]
theorem bytes_beq(a b:ByteArray):(a.toList==b.toList)=(iD a==iD b):=by
 rw[fI,fI];unfold iD
 by_cases h:a.data.toList=b.data.toList
 ·simp[h]
 ·have d:¬(a.data.toList.map (·.toNat)=b.data.toList.map (·.toNat)):=fun c=>h (zZ c)
  rw[beq_eq_false_iff_ne.2 h,beq_eq_false_iff_ne.2 d]
theorem Gk:∀a b:List UInt8,g8 a b=fN (a.map (·.toNat)) (b.map (·.toNat))
 |[],[]=>rfl
 |_::_,[]=>rfl
 |[],_::_=>rfl
 |x::a,y::b=>by
  simp only[g8,hC,fN,Gk a b];congr 1
  ·congr 1
   by_cases h:x=y
   ·simp[h]
   ·have:¬x.toNat=y.toNat:=fun c=>h (j7.1 c);rw[beq_eq_false_iff_ne.2 h,beq_eq_false_iff_ne.2 this]
theorem azO{c:BinOp}{T j:dg}{x y:db}{a b:List Nat}{K:PV->Prop}(g:o.op= .binOp c T x y j)(hx:ρ x= .p (.str a))(q:ρ y= .p (.str b))
 (h:oQ c a b K)(aj:List (Nat×Obj)):∃v,K v/\bh P o ρ base {v:=.p v,aj}:=by
 have key:∀v,K v->(∀(w:dp)(aa:Nat->Prop)(s t:ByteArray),a=iD s->b=iD t->∃r,(hb c s t).run P w=.ok r w/\aw P w aa v r)->∃v,K v/\bh P o ρ base {v:=.p v,aj}:=by
  intro v n m;refine⟨v,n,bh.same fun H w aa ah β B A i _=>?_⟩;have e:=(i x (by simp[g,gy])).1;have f:=(i y (by simp[g,gy])).1;rw[hx]at e;rw[q]at f;simp only[ar,Le]at e f;obtain⟨s,e1,e2⟩:=e;obtain⟨t,e3,e4⟩:=f;obtain⟨r,u,z⟩:=m w aa s t e2 e4;refine⟨r,?_,by simpa only[ar]using z,by simp[aB]⟩;simp only[dl,g,e1,e3];refine eh ?_;have l:(eqGuard c T x y (.string s) (.string t)).run P w=.ok () w:=by
   unfold eqGuard
   split<;>simp
  have k:(binOp c T (.string s) (.string t)).run P w=.ok r w:=by
   cases c<;>first|(simp[oQ]at h;done)|exact u
  simp[l,k]
 have hl:∀s t:ByteArray,a=iD s->b=iD t->g8 s.toList t.toList=fN a b/\(s.toList==t.toList)=(a==b):=by
  intro s t hs d;rw[bytes_beq,<-hs,<-d,Gk,fI,fI];exact⟨by rw[hs,d];rfl,rfl⟩
 cases c<;>simp only[oQ]at h
 case add=>
  refine key _ h.2 fun w aa s t hs d=>⟨.string (s++t),run_string_add_sum w s t ?_,?_⟩
  ·have e:a.length=s.size:=by rw[hs];simp[iD]
   have f:b.length=t.size:=by rw[d];simp[iD]
   omega
  ·rw[Le];exact⟨_,rfl,by rw[hs,d];simp[iD,ByteArray.data_append]⟩
 case eql|neq|lss|leq|gtr|geq=>
  refine key _ h fun w aa s t hs d=>?_;obtain⟨e1,e2⟩:=hl s t hs d;exact⟨_,by simp only[hb,e1,e2];rfl,by simp[aw]⟩
theorem Q9{T:dg}(h:pU P T=true):P.underlying T=some .bool:=by
 unfold pU at h
 split at h
 ·assumption
 ·simp at h
theorem Ga{T:dg}{a b:dk}{r:Bool}{w:dp}(h:(g7 T a b).run P w= .ok r w)(d:(∃x,a= .bool x)\/(∃x,a= .agg x)\/(∃p n c,a= .slice p n c)\/(∃m,a= .map m)\/a= .nilFunc\/(∃f x y,a= .func f x y)\/(∃p,a= .pointer p)\/a= .nilIface):
 (binOp .eql T a b).run P w=.ok (.bool r) w/\(binOp .neq T a b).run P w=.ok (.bool !r) w:=by
 rcases d with⟨x,rfl⟩|⟨x,rfl⟩|⟨p,n,c,rfl⟩|⟨m,rfl⟩|rfl|⟨f,x,y,rfl⟩|⟨p,rfl⟩|rfl
 all_goals (constructor<;>(unfold binOp;simp[h]))
def jc.isAgg:jc->Bool
 | .agg _=>true
 |_=>false
theorem Ue{T:dg}{t:jc}(hk:kindOf P T=t)(a:t≠.bad)(w:dp):(isAgg T).run P w=.ok t.isAgg w:=by
 unfold kindOf at hk;cases hu:P.underlying T with
 |none=>rw[hu]at hk;simp at hk;exact(a hk.symm).elim
 |some d=>
  rw[hu]at hk;simp only[isAgg,hj,da hu,hg];cases d<;>simp only at hk<;>(split at hk<;>first|(subst hk;rfl)|exact(a hk.symm).elim)
theorem pW{F:dg}{v:PV}{pre c post:List dk}{cs:Array dk}(hk:kindOf P F=aL v)(b:aV P w aa v c)(e:cs.toList=pre++c++post):
 ∃x,(part F cs pre.length).run P w=.ok x w/\aw P w aa v x:=by
 obtain⟨j,i,f,g⟩:=wo (v:=.p v) (β:=⟨id,id⟩) (H:=[]) (w:=w) (aa:=aa) hk (by simpa only[bf]using b);have d:=(mW b).2;have a:=Ue hk d w;cases hs:aL v with
 |bad=>exact(d hs).elim
 |leaf=>
  rw[hs]at a;obtain⟨x,rfl,hx⟩:=(rR hs c).1 b;refine⟨x,?_,hx⟩;have:cs[pre.length]?=some x:=by rw[<-cb,e];simp
  simp[part,a,this,jc.isAgg]
 |agg u=>
  rw[hs]at a;refine⟨.agg c.toArray,?_,(uJ hs c).1 b⟩;have h:(sizeOf F).run P w=.ok c.length w:=by simp[sizeOf,typeInfo,f,g]
  have:cs.extract pre.length (pre.length+c.length)=c.toArray:=by
   apply b5;rw[Array.toList_extract,e];simp[List.extract_eq_take_drop]
  simp[part,a,h,this,jc.isAgg]
theorem uI{n:Nat}{b:List Nat}{v:PV}{vs:List PV}{a:List (List dk)}(h:bc P w aa (n::b) (v::vs) a):∃c cs,a=c::cs/\aV P w aa v c/\c.length=n/\bc P w aa b vs cs:=by
 simpa only[bc]using h
theorem Gi{eqF:dg->PV->PV->Option Bool}{d:Nat}(B:∀F a b r,eqF F a b=some r->kindOf P F=aL a->kindOf P F=aL b->∀x y,aw P w aa a x->aw P w aa b y->(g0 d F x y).run P w= .ok r w){X Y:Array dk}:
 ∀(fs:List ed)(l:List Nat)(j k:List PV)(r:Bool)(h m:List dk)(o p:List (List dk)),fw P eqF (fs.map (·.type)) j k=some r->fs.all (fun f=>f.name != "_")=true->
 (∀(i:Nat)(f:ed),fs[i]?=some f->f.offset=h.length+(l.take i).sum)->bc P w aa l j o->bc P w aa l k p->h.length=m.length->
 X.toList=h++o.flatten->Y.toList=m++p.flatten->(g9 d X Y fs).run P w=.ok r w
 |[],l,j,k,r,h,m,o,p,e,_,_,_,_,_,_,_=>by
  cases j<;>cases k<;>simp[fw]at e;subst e;simp[g9]
 |f::fs,l,j,k,r,h,m,o,p,e,q,v,hx,L,A,t,hY=>by
  cases j with
  |nil=>simp[fw]at e
  |cons a j=>
   cases k with
   |nil=>simp[fw]at e
   |cons b k=>
    cases l with
    |nil=>simp[bc]at hx
    |cons n l=>
     simp only[hC,fw]at e
     split at e
     case isFalse=>simp at e
     rename_i hk
     split at e
     case h_2=>simp at e
     rename_i N O E G;simp at e;subst e;obtain⟨c,cs,rfl,hc,u,K⟩:=uI hx;obtain⟨c',s,rfl,H,I,M⟩:=uI L;simp only[List.all_cons,c9,bne_iff_ne]at q;have z:f.offset=h.length:=by simpa using v 0 f (by simp)
     obtain⟨x,C,R⟩:=pW hk.1 hc (pre:=h) (post:=cs.flatten) (cs:=X) (by rw[t];simp);obtain⟨y,D,S⟩:=pW hk.2 H (pre:=m) (post:=s.flatten) (cs:=Y) (by rw[hY];simp);have e1:=B _ _ _ _ E hk.1 hk.2 x y R S;rw[<-z]at C;rw[<-A,<-z]at D;have Q:=Gi B fs l j k O (h++c) (m++c') cs s G q.2 (by
      intro i g J;have:=v (i+1) g (by simpa using J);rw[this,h9,ip,hA,u];omega) K M (by simp[A,u,I]) (by rw[t];simp) (by rw[hY];simp)
     simp only[g9,q.1,ne_eq,not_false_eq_true,if_true,hj,C,D,e1,hg];cases N with
     |false=>simp
     |true=>simpa using Q
theorem EJ{eqF:dg->PV->PV->Option Bool}{d:Nat}{e:dg}(u:∀a b r,eqF e a b=some r->∀x y,aw P w aa a x->aw P w aa b y->(g0 d e x y).run P w= .ok r w){X Y:Array dk}:
 ∀(n k:Nat)(g h:List PV)(r:Bool)(i j:List dk)(l m:List (List dk)),fw P eqF (hB n e) g h=some r->
 bc P w aa (hB n (P.cellsOf e)) g l->bc P w aa (hB n (P.cellsOf e)) h m->i.length=k*P.cellsOf e->j.length=k*P.cellsOf e->
 X.toList=i++l.flatten->Y.toList=j++m.flatten->(ha d e (P.cellsOf e) X Y (List.range' k n)).run P w=.ok r w
 |0,k,g,h,r,i,j,l,m,f,_,_,_,_,_,_=>by
  cases g<;>cases h<;>simp[fw]at f;subst f;simp[ha]
 |n+1,k,g,h,r,i,j,l,m,f,hx,t,q,s,p,hY=>by
  cases g with
  |nil=>simp[hV,fw]at f
  |cons a g=>
   cases h with
   |nil=>simp[hV,fw]at f
   |cons b h=>
    rw[hV]at f hx t;simp only[fw]at f
    split at f
    case isFalse=>simp at f
    rename_i hk
    split at f
    case h_2=>simp at f
    rename_i H I A B;simp at f;subst f;obtain⟨c,cs,rfl,hc,D,F⟩:=uI hx;obtain⟨c',o,rfl,C,E,G⟩:=uI t;obtain⟨x,v,K⟩:=pW hk.1 hc (pre:=i) (post:=cs.flatten) (cs:=X) (by rw[p];simp);obtain⟨y,z,L⟩:=pW hk.2 C (pre:=j) (post:=o.flatten) (cs:=Y) (by rw[hY];simp);have e1:=u _ _ _ A x y K L;rw[q]at v;rw[s]at z;have J:=EJ u n (k+1) g h I (i++c) (j++c') cs o B F G (by rw[hA,q,D,j1]) (by rw[hA,s,E,j1]) (by rw[p];simp) (by rw[hY];simp);rw[List.range'_succ];simp only[ha,hj,v,z,e1,hg];cases H with
    |false=>simp
    |true=>simpa using J
theorem xA:∀(n:Nat)(T:dg)(v v':PV)(r:Bool),dC P n T v v'=some r->∀x y,aw P w aa v x->aw P w aa v' y->∀d,n<=d->(g0 d T x y).run P w=.ok r w
 |0,_,_,_,_,h,_,_,_,_,_,_=>by simp[dC]at h
 |n+1,T,v,v',r,h,x,y,hx,g,d,L=>by
  obtain⟨d,rfl⟩:∃e,d=e+1:=⟨d-1,by omega⟩
  unfold dC at h
  split at h
  ·rename_i a b c;simp at h;subst h;simp only[aw]at hx g;subst hx;subst g;simp[g0,da c]
  ·rename_i k0 k a M b c
   split at h
   case isFalse=>simp at h
   rename_i hk;subst hk;simp at h;subst h;simp only[aw]at hx g;subst hx;subst g;exact run_equalIn_int w d T k k0 a b c
  ·rename_i a b c;simp at h;subst h;simp only[aw]at hx g;obtain⟨s,rfl,hs⟩:=hx;obtain⟨t,rfl,H⟩:=g;rw[run_equalIn_string w d T s t c,bytes_beq,hs,H];rfl
  ·rename_i fs u A u' B c
   split at h
   case isFalse=>simp at h
   rename_i hc;obtain⟨hk,rfl,G,E⟩:=hc;simp only[aw]at hx g;obtain⟨l,j,k1,k2,rfl⟩:=hx;obtain⟨D,o,k3,k4,rfl⟩:=g;rw[k1]at k3;cases k3;obtain⟨K,D,s1,s2,q,z,N,I⟩:=tR (P:=P) (T:=T) (u:=u') (n:=fs.size) (by unfold fZ;rw[hk,c]);rw[c]at s1;cases s1;rw[k1]at z;cases z;have C:P.fieldsOf T=fs:=by simp[Program.fieldsOf,c]
   rw[run_equalIn_struct w d T _ _ (by rw[C];exact c) G,C];refine Gi (eqF:=dC P n) (fun F a b r p _ _ x y hx g=>xA n F a b r p x y hx g d (by omega)) fs.toList l A B r [] [] j o h E ?_ k2 k4 rfl (by simp) (by simp);intro i f hf;have hi:i<fs.size:=by
    have:=(hw.1 hf).1;simpa using this
   obtain⟨J,g1,g2,_⟩:=I i hi;rw[cb,g1]at hf;cases hf;simpa using g2
  ·rename_i m e u A u' B c
   split at h
   case isFalse=>simp at h
   rename_i hc;obtain⟨hk,rfl,hi⟩:=hc;simp only[aw]at hx g;obtain⟨l,j,k1,k2,rfl⟩:=hx;obtain⟨D,o,k3,k4,rfl⟩:=g;rw[k1]at k3;cases k3;obtain⟨e',s1,s2,q,z⟩:=rU (P:=P) (T:=T) (u:=u') (n:=m) (by unfold gM;rw[hk,c]);rw[c]at s1;cases s1;rw[k1]at q;cases q;obtain⟨i,hi⟩:=j4.1 hi;rw[run_equalIn_array w d _ _ c hi,List.range_eq_range'];exact EJ (eqF:=dC P n) (fun a b r p x y hx g=>xA n e a b r p x y hx g d (by omega)) m 0 A B r [] [] j o h k2 k4 (by simp) (by simp) (by simp) (by simp)
  ·simp at h
end
section
variable{P:dq}{w:dp}{aa ah:Nat->Prop}{β:Bd}{H:Heap}
variable{o:Oper}{ρ:db->AV}{base:Nat}
theorem Cf{d:BinOp}{T C:dg}{x y:db}{r:Bool}{K:PV->Prop}{l:List (Nat×Obj)}(k:o.op= .binOp d T x y C)
 (D:d=.eql/\K (.bool r)\/d=.neq/\K (.bool !r))
 (I:∀(H:Heap)(w:dp)(aa ah:Nat->Prop)(β:Bd)(a b:dk),bQ P w aa β H ah->(∀p∈l,H[p.1]?=some p.2)->ar P w aa β H (ρ x) a->ar P w aa β H (ρ y) b->(g7 T a b).run P w=.ok r w/\
  ((∃x,a=.bool x)\/(∃x,a=.agg x)\/(∃p n c,a=.slice p n c)\/(∃m,a=.map m)\/a=.nilFunc\/(∃f x y,a=.func f x y)\/(∃p,a=.pointer p)\/(a=.nilIface/\lN y=true))/\(∀u v,a=.agg u->b=.agg v->P.eqGuardType P.depth T=false)):
 ∃v,K v/\bh P o ρ base {v:=.p v,aj:=l}:=by
 have key:∀v,K v->(∀(w:dp)(a b:dk),(g7 T a b).run P w= .ok r w->((∃x,a= .bool x)\/(∃x,a= .agg x)\/(∃p n c,a= .slice p n c)\/(∃m,a= .map m)\/a= .nilFunc\/(∃f x y,a= .func f x y)\/(∃p,a= .pointer p)\/a= .nilIface)->
  ∃q,v=.bool q/\(binOp d T a b).run P w=.ok (.bool q) w)->∃v,K v/\bh P o ρ base {v:=.p v,aj:=l}:=by
  intro v J hq;refine⟨v,J,bh.same fun H w aa ah β s G t aj=>?_⟩;obtain⟨L,z,A⟩:=I H w aa ah β _ _ G aj (t x (by simp[k,gy])).1 (t y (by simp[k,gy])).1;obtain⟨q,rfl,F⟩:=hq w _ _ L (by rcases z with h|h|h|h|h|h|h|h<;>simp[h]);refine⟨.bool q,?_,by simp[ar,aw],by simp[aB]⟩;simp only[dl,k];refine eh ?_;have E:(eqGuard d T x y (s x) (s y)).run P w=.ok () w:=by
   rcases z with⟨p,e⟩|⟨p,e⟩|⟨p,n,c,e⟩|⟨m,e⟩|e|⟨f,M,N,e⟩|⟨p,e⟩|⟨e,hc⟩
   all_goals rw[e]at A⊢
   case inr.inl=>
    cases hy:s y with
    |agg B=>
     exact run_eqGuard_agg w d T x y p B (A p B rfl hy)
    |_=>cases d<;>rfl
   case inr.inr.inr.inr.inr.inr.inr=>
    cases y<;>simp[lN]at hc;unfold eqGuard;cases d<;>simp<;>(split<;>simp_all)
   all_goals (cases d<;>rfl)
  simp[E,F]
 rcases D with⟨rfl,j⟩|⟨rfl,j⟩
 ·exact key _ j fun w a b g i=>⟨_,rfl,(Ga g i).1⟩
 ·exact key _ j fun w a b g i=>⟨_,rfl,(Ga g i).2⟩
theorem xt(T:dg)(a b:dk):∃d,9<=d+1/\g7 T a b=g0 (d+1) T a b:=⟨9999,by omega,rfl⟩
theorem Hw{T:dg}{c:Bool}{b:AV}{k:tu}(h:di P T c b=some k):
 (k=.ptr/\b=.p .dD/\∃e,P.underlying T=some (.pointer e))\/(k=.slice/\b=.p .aG/\∃e,P.underlying T=some (.slice e))\/
 (k=.map/\b=.p .ff/\∃e f,P.underlying T=some (.map e f))\/(k=.func/\b=.p .gV/\∃e f g,P.underlying T=some (.func e f g))\/(k=.iface/\b=.p .fF/\c=true/\∃m,P.underlying T=some (.interface m)):=by
 unfold di at h
 split at h<;>first
  |(split at h
    ·rename_i a;simp at h;subst h;simp[a]
    ·simp at h)
  |simp at h
theorem azt{T:dg}{c:Bool}{H0:Heap}{a b:AV}{r:Bool}{k:tu}(hk:di P T c b=some k)(h:cM H0 k a=some r){l s:dk}(aj:∀p∈dx H0 a,H[p.1]?=some p.2)(i:ar P w aa β H a l)(C:ar P w aa β H b s):
 (g7 T l s).run P w=.ok r w/\((∃x,l=.bool x)\/(∃x,l=.agg x)\/(∃p n c,l=.slice p n c)\/(∃m,l=.map m)\/l=.nilFunc\/(∃f x y,l=.func f x y)\/(∃p,l=.pointer p)\/(l=.nilIface/\c=true))/\(∀u v,l=.agg u->s=.agg v->P.eqGuardType P.depth T=false):=by
 obtain⟨d,_,I⟩:=xt T l s;rw[I];rcases Hw hk with⟨rfl,rfl,e,j⟩|⟨rfl,rfl,e,j⟩|⟨rfl,rfl,e,f,j⟩|⟨rfl,rfl,e,f,g,j⟩|⟨rfl,rfl,G,m,j⟩
 all_goals simp only[ar,aw]at C
 all_goals subst C
 ·cases a<;>simp only[cM]at h
  case p v=>
   cases v<;>simp only at h<;>simp at h
   all_goals subst h
   all_goals simp only[ar,aw]at i
   ·subst i;simp[g0,da j]
   ·obtain⟨_,_,_,_,_,_,rfl⟩:=i;simp[g0,da j]
  case ptr B path=>
   simp only[ar,bI,bO]at i;obtain⟨_,_,_,_,rfl,_⟩:=i
   split at h
   ·simp at h;subst h;simp[g0,da j]
   ·simp at h
  all_goals simp at h
 ·cases a<;>simp only[cM]at h
  case p v=>
   cases v
   case seq o=>
    cases o with
    |nil=>simp at h
    |cons e o=>
     simp at h;subst h;simp only[ar,aw]at i;rcases i with⟨J,_⟩|⟨_,_,_,_,_,_,_,_,_,_,_,rfl⟩
     ·cases J
     ·simp[g0,da j]
   all_goals simp only at h
   all_goals simp at h
   all_goals subst h
   all_goals simp only[ar,aw]at i
   ·subst i;simp[g0,da j]
   ·obtain⟨_,_,_,_,_,_,_,_,_,_,_,_,rfl⟩:=i;simp[g0,da j]
  case sl B al ai off len=>
   simp only[ar,bI,bO]at i;simp only[dx]at aj
   split at h
   case h_2=>simp at h
   rename_i A M L o t;rw[t]at aj;have z:=aj _ (h0.2 rfl)
   split at h
   case isFalse=>simp at h
   rename_i hc;obtain⟨rfl,rfl⟩:=hc;obtain⟨_,E,F⟩:=i.2 A o z
   by_cases q:c8 A o
   ·rw[E q];have:r=true:=by simp at h;rw[<-h];simp[q.1,q.2]
    subst this;simp[g0,da j]
   ·rw[F q];have:r=false:=by
     simp at h;rw[<-h];unfold c8 at q
     by_cases D:A.gr=true
     ·have K:o≠[]:=fun h=>q ⟨D,h⟩;simp[K]
     ·simp[D]
    subst this;simp[g0,da j]
  all_goals simp at h
 ·cases a<;>simp only[cM]at h
  case p v=>
   cases v<;>simp only at h<;>simp at h
   all_goals subst h
   all_goals simp only[ar,aw]at i
   ·subst i;simp[g0,da j]
   ·obtain⟨_,_,_,_,_,_,rfl⟩:=i;simp[g0,da j]
  case map B=>
   simp only[ar,bI,bO]at i;simp only[dx]at aj
   split at h
   case h_2=>simp at h
   rename_i fz o t;rw[t]at aj;have z:=aj _ (h0.2 rfl);rw[i.2.1 ⟨_,z,trivial⟩];simp at h;subst h;simp[g0,da j]
  all_goals simp at h
 ·cases a<;>simp only[cM]at h
  case p v=>
   cases v<;>simp only at h<;>simp at h
   all_goals subst h
   all_goals simp only[ar,aw]at i
   ·obtain⟨_,_,_,_,rfl⟩:=i;simp[g0,da j]
   ·subst i;simp[g0,da j]
  case func f first gT=>
   simp only[ar]at i;obtain⟨_,_,_,_,rfl⟩:=i;simp at h;subst h;simp[g0,da j]
  all_goals simp at h
 ·cases a<;>simp only[cM]at h
  case p v=>
   cases v<;>simp only at h<;>simp at h
   all_goals subst h
   all_goals simp only[ar,aw]at i
   subst i;simp[g0,da j,G]
  all_goals simp at h
theorem azE{i:BinOp}{T s:dg}{x y:db}{K:PV->Prop}{H0:Heap}(j:o.op= .binOp i T x y s)(h:jQ P i T (lN y) H0 (ρ x) (ρ y) K):
 ∃v,K v/\bh P o ρ base {v:=.p v,aj:=dx H0 (ρ x)}:=by
 unfold jQ at h
 split at h
 ·rename_i k a C b hx g;exact azI j hx g h.1 h.2 _
 ·rename_i a b hx g;exact azO j hx g h _
 ·rename_i a b hx g;obtain⟨z,h⟩:=h;have m:=Q9 z;refine Cf (r:=a==b) j ?_ ?_
  ·split at h
   ·exact .inl ⟨rfl,h⟩
   ·exact .inr ⟨rfl,h⟩
   ·exact h.elim
  ·intro H w aa ah β n q e aj f c;rw[hx]at f;rw[g]at c;simp only[ar,aw]at f c;subst f;subst c;obtain⟨d,_,l⟩:=xt T (.bool a) (.bool b);rw[l];exact⟨by simp[g0,da m],.inl ⟨_,rfl⟩,fun u v m _=>by cases m⟩
 ·rename_i u fs u' t hx g;obtain⟨B,h⟩:=h;obtain⟨r,e,c⟩:∃r,dC P 9 T (.st u fs) (.st u' t)=some r/\(i=.eql/\K (.bool r)\/i=.neq/\K (.bool !r)):=by
   split at h
   ·rename_i r e;exact⟨r,e,.inl ⟨rfl,h⟩⟩
   ·rename_i r e;exact⟨r,e,.inr ⟨rfl,h⟩⟩
   ·exact h.elim
  refine Cf (r:=r) j c ?_;intro H w aa ah β n q _ aj f c;rw[hx]at f;rw[g]at c;simp only[ar]at f c;refine⟨?_,?_,fun u v _ _=>by simpa[lL]using B⟩
  ·obtain⟨d,A,l⟩:=xt T n q;rw[l];exact xA 9 T _ _ r e _ _ f c (d+1) A
  ·simp only[aw]at f;obtain⟨_,_,_,_,rfl⟩:=f;exact .inr (.inl ⟨_,rfl⟩)
 ·rename_i hx g
  split at h
  case h_2=>exact h.elim
  rename_i k hk;obtain⟨r,e,c⟩:∃r,cM H0 k (ρ x)=some r/\(i=.eql/\K (.bool r)\/i=.neq/\K (.bool !r)):=by
   split at h
   ·rename_i r e;exact⟨r,e,.inl ⟨rfl,h⟩⟩
   ·rename_i r e;exact⟨r,e,.inr ⟨rfl,h⟩⟩
   ·exact h.elim
  exact Cf (r:=r) j c fun H w aa ah β n q _ aj f c=>azt hk e aj f c
end
section
variable{P:dq}{w:dp}{aa ah:Nat->Prop}{β:Bd}{H:Heap}
variable{o:Oper}{ρ:db->AV}{base:Nat}
theorem ni{c:db->dk}:∀(l:List db),(∀x∈l,ar P w aa β H (ρ x) (c x)/\aB (aH H) (ρ x))->bt P w aa β H (l.map ρ) (l.map c)/\aP (aH H) (l.map ρ)
 |[],_=>by simp[bt,aP]
 |x::l,h=>by
  have a:=h x (by simp);have b:=ni l (fun y d=>h y (by simp[d]));simp only[hC,bt,aP];exact⟨⟨_,_,rfl,a.1,b.1⟩,a.2,b.2⟩
theorem xj{H0:Heap}:∀(l:List AV){j:List PV}{aj aK:List (Nat×Obj)}{H:Heap}{aa:Nat->Prop}{vs:List dk},fp H0 l=some (j,aj,aK)->bQ P w aa β H ah->bt P w aa β H l vs->aP (aH H) l->
 (∀p∈aj,∃f fz t,p.2=.box fz t/\H[p.1]?=some (.box f t))->∃aD,bU P ah aa w β H aD w β (bd H aK)/\bg P w aD j vs/\∀p∈aK,p.1<H0.length/\p.2≠.hole
 |[],j,aj,aK,H,aa,vs,h,i,e,_,_=>by
  simp[fp]at h;obtain⟨rfl,rfl,rfl⟩:=h;simp only[bt]at e;exact⟨aa,bU.refl i,by simpa[bg]using e,by simp⟩
 |a::l,j,aj,aK,H,aa,vs,h,i,e,d,m=>by
  simp only[bt]at e;obtain⟨y,x,rfl,n,u⟩:=e;simp only[aP]at d;cases a with
  |p v=>
   simp only[fp]at h
   split at h
   case h_2=>simp at h
   rename_i G B E k;simp at h;obtain⟨rfl,rfl,rfl⟩:=h;obtain⟨aD,q1,o,q⟩:=xj l k i u d.2 m;simp only[ar]at n;exact⟨aD,q1,by simp only[bg];exact⟨y,x,rfl,aw.mono q1.bR (fun _ _=>rfl) _ _ n,o⟩,q⟩
  |ptr b path=>
   cases path with
   |cons _ _=>simp[fp]at h
   |nil=>
    simp only[fp]at h
    split at h
    case h_2=>simp at h
    rename_i fz t G B E C k;simp at h;obtain⟨rfl,rfl,rfl⟩:=h;obtain⟨f,J,K,e1,e2⟩:=m (b,.box fz (.p t)) (by simp);cases e1;have D:ki H (.ptr b [])=some (.cz t,H.set b (.box true (.p t))):=by
     simp only at e2;simp[ki,e2,kl]
    obtain⟨I,g,F⟩:=Ih D i n d.1;have A:b<H.length:=(hw.1 e2).1;obtain⟨z,q1,o,q⟩:=xj l k g.rel (bt.mono g.bR (fun _ _=>rfl) g.step _ _ d.2 u) (aP.mono g.eH _ d.2) (by
     intro p c;obtain⟨f2,r,t2,g1,g2⟩:=m p (by simp[c])
     by_cases s:b=p.1
     ·rw[<-s]at g2⊢;simp only at e2;rw[e2]at g2;cases g2;exact⟨true,r,_,g1,by rw[hz A]⟩
     ·exact⟨f2,r,t2,g1,by rw[hG s];exact g2⟩)
    refine⟨z,by simpa only[bd]using g.trans q1,?_,?_⟩
    ·simp only[bg];exact⟨y,x,rfl,aw.mono q1.bR (fun _ _=>rfl) _ _ F,o⟩
    ·intro p c;rcases hE.1 c with rfl|c
     ·exact⟨(hw.1 C).1,by simp⟩
     ·exact q p c
  |_=>simp[fp]at h
theorem Se{f:ec}{fi ca:Array db}(E:o.op= .makeFunc (.func f) fi ca):
 (∀a b,eA (fi.toList.map ρ)=some a->eA (ca.toList.map ρ)=some b->bh P o ρ base {v:=.p (.func f a b)})/\
 bh P o ρ base {v:=.func f (fi.toList.map ρ) (ca.toList.map ρ)}/\
 (∀(H0:Heap) a b aj aK,fp H0 (fi.toList.map ρ)=some (a,[],[])->fp H0 (ca.toList.map ρ)=some (b,aj,aK)->bh P o ρ base {v:=.p (.func f a b),aj,aK}/\(∀p∈aj,H0[p.1]?=some p.2)/\(∀p∈aK,p.1<H0.length/\p.2≠.hole)):=by
 have g:∀x,x∈fi.toList\/x∈ca.toList->x∈o.op.operands:=by
  intro x hx;rw[E];simp only[gy,Array.mem_append];simpa using hx
 have u:∀(c:db->dk)(w:dp),(dl c o).run P w=.ok (.value (.func (.func f) (fi.toList.map c).toArray (ca.toList.map c).toArray)) w:=by
  intro c w;simp only[dl,E];refine eh ?_;have j:(fi.toList.map c).toArray=fi.map c:=by apply b5;simp
  have k:(ca.toList.map c).toArray=ca.map c:=by apply b5;simp
  rw[j,k];simp[Instr.makeFunc]
 refine⟨?_,?_,?_⟩
 ·intro a b s m;refine bh.same fun H w aa ah β c z e _=>⟨_,u c w,?_,by simp[aB]⟩
  obtain⟨j,_⟩:=ni fi.toList (fun x hx=>e x (g x (.inl hx)));obtain⟨k,_⟩:=ni ca.toList (fun x hx=>e x (g x (.inr hx)));rw[lx s]at j;rw[lx m]at k;simp only[ar,aw];exact⟨_,_,jh.1 j,jh.1 k,rfl⟩
 ·refine bh.same fun H w aa ah β c z e _=>⟨_,u c w,?_,?_⟩
  ·simp only[ar];exact⟨_,_,(ni fi.toList (fun x hx=>e x (g x (.inl hx)))).1,(ni ca.toList (fun x hx=>e x (g x (.inr hx)))).1,rfl⟩
  ·simp only[aB];exact⟨(ni fi.toList (fun x hx=>e x (g x (.inl hx)))).2,(ni ca.toList (fun x hx=>e x (g x (.inr hx)))).2⟩
 ·intro H0 a b aj aK s m;have D:∀p∈aj,H0[p.1]?=some p.2/\∃fz t,p.2=.box fz t:=by
   have:∀(l:List AV)(b:List PV)(aj aK:List (Nat×Obj)),fp H0 l=some (b,aj,aK)->∀p∈aj,H0[p.1]?=some p.2/\∃fz t,p.2=.box fz t:=by
    intro l
    induction l with
    |nil=>intro b aj aK h;simp[fp]at h;obtain⟨rfl,rfl,rfl⟩:=h;simp
    |cons x l q=>
     intro b aj aK h;cases x with
     |p v=>
      simp only[fp]at h
      split at h
      case h_2=>simp at h
      rename_i B n A i;simp at h;obtain⟨rfl,rfl,rfl⟩:=h;exact q _ _ _ i
     |ptr J path=>
      cases path with
      |cons _ _=>simp[fp]at h
      |nil=>
       simp only[fp]at h
       split at h
       case h_2=>simp at h
       rename_i fz t B n A y i;simp at h;obtain⟨rfl,rfl,rfl⟩:=h;intro p d;rcases hE.1 d with rfl|d
       ·exact⟨y,_,_,rfl⟩
       ·exact q _ _ _ i p d
     |_=>simp[fp]at h
   exact this _ _ _ _ m
  have K:∀p∈aK,p.1<H0.length/\p.2≠.hole:=by
   have:∀(l:List AV)(b:List PV)(aj aK:List (Nat×Obj)),fp H0 l=some (b,aj,aK)->∀p∈aK,p.1<H0.length/\p.2≠.hole:=by
    intro l
    induction l with
    |nil=>intro b aj aK h;simp[fp]at h;obtain⟨rfl,rfl,rfl⟩:=h;simp
    |cons x l q=>
     intro b aj aK h;cases x with
     |p v=>
      simp only[fp]at h
      split at h
      case h_2=>simp at h
      rename_i B n A i;simp at h;obtain⟨rfl,rfl,rfl⟩:=h;exact q _ _ _ i
     |ptr J path=>
      cases path with
      |cons _ _=>simp[fp]at h
      |nil=>
       simp only[fp]at h
       split at h
       case h_2=>simp at h
       rename_i fz t B n A y i;simp at h;obtain⟨rfl,rfl,rfl⟩:=h;intro p d;rcases hE.1 d with rfl|d
       ·exact⟨(hw.1 y).1,by simp⟩
       ·exact q _ _ _ i p d
     |_=>simp[fp]at h
   exact this _ _ _ _ m
  refine⟨?_,fun p d=>(D p d).1,K⟩;intro H w aa ah β c z e n _;obtain⟨j,N⟩:=ni fi.toList (fun x hx=>e x (g x (.inl hx)));obtain⟨k,G⟩:=ni ca.toList (fun x hx=>e x (g x (.inr hx)));obtain⟨O,r,L,_⟩:=xj _ s z j N (by simp);simp only[bd]at r;obtain⟨I,q1,M,_⟩:=xj _ m r.rel (bt.mono r.bR (fun _ _=>rfl) r.step _ _ G k) G (by
   intro p d;obtain⟨_,fz,t,F⟩:=D p d;have C:=n p d;rw[F]at C;exact⟨fz,fz,t,F,C⟩)
  simp only[newAt,hD];refine⟨_,_,w,β,I,u c w,.inl rfl,r.trans q1,?_,by simp[aB]⟩;simp only[ar,aw];exact⟨_,_,bg.mono q1.bR (fun _ _=>rfl) _ _ L,M,rfl⟩
theorem Ac{x:db}(d:o.op=.nilCheck x)(h:(∃b p,ρ x=.ptr b p)\/(∃b v e i p,ρ x=.bX b v e i p)\/∃t,ρ x=.p (.cz t)):bh P o ρ base {v:=ρ x}:=by
 refine bh.same fun H w aa ah β f l k aj=>?_;have c:=k x (by simp[d,gy]);refine⟨f x,?_,c⟩;have j:∃a,f x=.pointer (some a):=by
  rcases h with⟨b,p,hx⟩|⟨b,v,e,i,p,hx⟩|⟨t,hx⟩
  ·have c:=c.1;rw[hx]at c;simp only[ar,bI,bO]at c;obtain⟨_,_,_,_,h,_⟩:=c;exact⟨_,h⟩
  ·have c:=c.1;rw[hx]at c;simp only[ar,bI,bO]at c;obtain⟨_,_,_,_,h,_⟩:=c;exact⟨_,h⟩
  ·have c:=c.1;rw[hx]at c;simp only[ar,aw]at c;obtain⟨_,_,_,_,_,_,h⟩:=c;exact⟨_,h⟩
 obtain⟨a,g⟩:=j;simp[dl,d,g]
end
section
variable{P:dq}{w:dp}{aa ah:Nat->Prop}{β:Bd}{H:Heap}
variable{o:Oper}{ρ:db->AV}{base:Nat}
open Go.MapKept
def jO:PV->Prop
 | .st _ _=>False
 |_=>True
theorem B5{T:dg}{key:PV}(h:jO key)(k:PV):o6 P T key k=jX key k:=by
 cases key<;>first
  |exact h.elim
  |rfl
theorem Ri{T:dg}{key:PV}(h:jO key)(a:List (PV×PV)):lD P T a key=fE P T a key:=by
 cases key<;>first
  |exact h.elim
  |rfl
theorem wP{T:dg}{key:PV}{b:dk}(h:fc P T key=true)(hl:jO key)(a:aw P w aa key b):∃d,P.underlying T=some d/\IsKey d b:=by
 unfold fc at h
 split at h
 ·split at h
  ·rename_i c;simp at h;subst h;simp only[aw]at a;subst a;exact⟨_,c,by simp[IsKey]⟩
  ·simp at h
 ·simp only[aw]at a;obtain⟨bs,rfl,_⟩:=a;exact⟨_,wE h,by simp[IsKey]⟩
 ·exact hl.elim
 ·simp at h
theorem yv{T:dg}{d:ej}(j:P.underlying T=some d){key g:PV}{i v':dk}{r:Bool}(h:fc P T key=true)(hl:jO key)(c:jX key g=some r)(e:aw P w aa key i)(f:aw P w aa g v'):
 gl d i v'=some r/\(r=true->i=v'):=by
 unfold fc at h
 split at h
 ·split at h
  ·rename_i k;simp at h;subst h;rw[j]at k;cases k;cases g<;>simp only[jX]at c<;>try (simp at c;done)
   split at c
   ·rename_i hk;subst hk;simp at c;subst c;simp only[aw]at e f;subst e;subst f;simp[gl]
   ·simp at c
  ·simp at h
 ·rename_i hs;have:=wE h;rw[j]at this;cases this;cases g<;>simp only[jX]at c<;>try (simp at c;done)
  simp at c;subst c;simp only[aw]at e f;obtain⟨a,rfl,e1⟩:=e;obtain⟨b,rfl,e2⟩:=f;subst e1;subst e2;have n:(h8 (fun x:UInt8=>x.toNat) a.data.toList=h8 (fun x:UInt8=>x.toNat) b.data.toList)↔a=b:=by
   constructor
   ·intro h;have:=zZ h;apply ByteArray.ext;apply b5;exact this
   ·intro h;rw[h]
  by_cases hc:a=b
  ·subst hc;simp[gl,gx]
  ·have l:¬(h8 (fun x:UInt8=>x.toNat) a.data.toList=h8 (fun x:UInt8=>x.toNat) b.data.toList):=fun h=>hc (n.1 h);have m:(a==b)=false:=by
    cases o:(a==b)with
    |false=>rfl
    |true=>exact(hc ((gx a b).1 o)).elim
   simp[gl,l,m]
 ·exact hl.elim
 ·simp at h
theorem Bs{T:dg}{d:ej}(o:P.underlying T=some d){key:PV}{g:dk}(hk:fc P T key=true)(m:jO key)(l:aw P w aa key g):∀(b:List (PV×PV))(a:List dz)(i:Nat)(r:Option PV),cC P w aa b a->fE P T b key=some r->
 (r=none/\gb d g a i=some none)\/∃v j e,r=some v/\gb d g a i=some (some (i+j,e.val))/\a[j]?=some e/\aw P w aa v e.val/\e.key=g/\
  (∀(x:PV)(k:dk),aw P w aa x k->cC P w aa (fX b key x) (a.modify j fun e=>{e with key:=g,val:=k}))
 |[],a,i,r,f,h=>by
  simp only[cC]at f;simp[fE]at h;subst f;subst h;exact .inl ⟨rfl,rfl⟩
 |(s,v')::b,a,i,r,f,h=>by
  simp only[cC]at f;obtain⟨e,rest,rfl,n,p,q⟩:=f;simp only[fE,B5 m]at h
  split at h
  ·rename_i c;simp at h;subst h;obtain⟨g1,g2⟩:=yv o hk m c l n;refine .inr ⟨v',0,e,rfl,by simp[gb,g1],rfl,p,(g2 rfl).symm,fun x k hx=>?_⟩;simp only[fX,c,if_true];simp only[cC];exact⟨_,rest,rfl,l,hx,q⟩
  ·rename_i c;obtain⟨g1,g2⟩:=yv o hk m c l n;rcases Bs o hk m l b rest (i+1) r q h with⟨rfl,f1⟩|⟨v,j,e',rfl,f1,f2,f3,f4,f5⟩
   ·exact .inl ⟨rfl,by simp[gb,g1,f1]⟩
   ·refine .inr ⟨v,j+1,e',rfl,by simp[gb,g1,f1];omega,by simpa using f2,f3,f4,fun x k hx=>?_⟩;simp only[fX,c];rw[if_neg (by simp)];simp only[cC];exact⟨e,_,by simp[List.modify_succ_cons],n,p,f5 x k hx⟩
  ·simp at h
theorem GM{X:Array dk}{y:dg->PV->PV->Option Bool}(e:Bool)(n:Nat):
 ∀(fs:List ed)(l:List Nat)(b:List PV)(r:Bool)(d:List dk)(o:List (List dk)),fw P y (fs.map (·.type)) b b=some r->(∀f∈fs,f.name≠ "_" /\se P f.type=true)->
 (∀(i:Nat)(f:ed),fs[i]?=some f->f.offset=d.length+(l.take i).sum)->bc P w aa l b o->
 X.toList=d++o.flatten->(forIn fs j5 (fun f _=>if f.name≠ "_" then(do
  let x<-part f.type X f.offset
  ge e (n+1) f.type x
  pure (ForInStep.yield j5))else pure (ForInStep.yield j5):ed->PUnit->Sem (ForInStep PUnit))).run P w=.ok j5 w
 |[],l,b,r,d,o,_,_,_,_,_=>by simp
 |f::fs,l,b,r,d,o,h,s,t,hx,q=>by
  cases b with
  |nil=>simp[fw]at h
  |cons a b=>
   cases l with
   |nil=>simp[bc]at hx
   |cons m l=>
    simp only[hC,fw]at h
    split at h
    case isFalse=>simp at h
    rename_i hk
    split at h
    case h_2=>simp at h
    rename_i I F H z;obtain⟨c,cs,rfl,hc,A,E⟩:=uI hx;obtain⟨C,p⟩:=s f (by simp);have D:f.offset=d.length:=by simpa using t 0 f (by simp)
    obtain⟨x,u,J⟩:=pW hk.1 hc (pre:=d) (post:=cs.flatten) (cs:=X) (by rw[q];simp);rw[<-D]at u;have v:(ge e (n+1) f.type x).run P w=.ok () w:=by
     unfold se at p;unfold ge
     split at p
     ·rename_i k j;simp[da j]
     ·rename_i j;simp[da j]
     ·rename_i j;simp[da j]
     ·cases p
    have G:=GM e n fs l b F (d++c) cs z (fun f hf=>s f (by simp[hf])) (by
     intro i g B;have:=t (i+1) g (by simpa using B);rw[this,h9,ip,hA,A];omega) E (by rw[q];simp)
    rw[List.forIn_cons];simp only[C,ne_eq,not_false_eq_true,if_true,hj,u,v,hg,hm];exact G
theorem QK{T:dg}{cE:Array ed}{u:Nat}{fs:List PV}{g:dk}(b:P.underlying T=some (.struct cE))(j:cE.toList.all (fun f=>f.name != "_" &&se P f.type)=true)(a:(dC P 9 T (.st u fs) (.st u fs)).isSome=true)(d:aw P w aa (.st u fs) g)(e:Bool):
 (ge e 10000 T g).run P w=.ok () w:=by
 obtain⟨r,a⟩:=j4.1 a;unfold dC at a;simp only[b]at a
 split at a
 case isFalse=>simp at a
 rename_i hc;obtain⟨hk,-,-,-⟩:=hc;simp only[aw]at d;obtain⟨l,c,k1,k2,rfl⟩:=d;obtain⟨o,p,s1,s2,q,h,s,k⟩:=tR (P:=P) (T:=T) (u:=u) (n:=cE.size) (by unfold fZ;rw[hk,b]);rw[b]at s1;cases s1;rw[k1]at h;cases h;have key:=GM (w:=w) (aa:=aa) (X:=c.flatten.toArray) e 9998 cE.toList l fs r [] c a (fun f hf=>by
  have:=ih.1 j f hf;simpa using this) (by
   intro i f hf;have hi:i<cE.size:=by
    have:=(hw.1 hf).1;simpa using this
   obtain⟨m,g1,g2,_⟩:=k i hi;rw[cb,g1]at hf;cases hf;simpa using g2) k2 (by simp)
 unfold ge;simp only[hj,da b,hg];rw[<-Array.forIn_toList];rw[key];simp
theorem A0{T:dg}{u:Nat}{fs:List PV}{g:dk}(p:aw P w aa (.st u fs) g):∀(k:List (PV×PV))(f:List dz)(i:Nat)(r:Option PV),cC P w aa k f->fE P T k (.st u fs)=some r->
 (r=none/\(gc T g f i).run P w=.ok none w/\∀x n born,aw P w aa x n->cC P w aa (fX k (.st u fs) x) (f++[{key:=g,val:=n,born}]))\/∃(v:PV)(j:Nat)(e:dz),r=some v/\(gc T g f i).run P w=.ok (some (i+j,e.val)) w/\aw P w aa v e.val
 |[],f,i,r,m,h=>by
  simp only[cC]at m;simp[fE]at h;subst m;subst h;refine .inl ⟨rfl,by simp[gc],fun x n born hx=>?_⟩;simp only[fX,cC];exact⟨_,[],rfl,p,hx,rfl⟩
 |(y,v')::k,f,i,r,m,h=>by
  simp only[cC]at m;obtain⟨e,rest,rfl,s,t,z⟩:=m;simp only[fE]at h;have q:∀b,o6 P T (.st u fs) y=some b->(g7 T g e.key).run P w=.ok b w/\jX (.st u fs) y=some b:=by
   intro b l;simp only[o6]at l
   split at l
   ·rename_i a c A hc;cases a<;>cases c<;>simp at l<;>subst l<;>
    ·obtain⟨d,B,hq⟩:=xt T g e.key;rw[hq];exact⟨xA 9 T _ _ _ A _ _ p s _ B,hc⟩
   ·simp at l
  split at h
  ·rename_i o;simp at h;subst h;obtain⟨g1,g2⟩:=q _ o;exact .inr ⟨v',0,e,rfl,by simp[gc,g1],t⟩
  ·rename_i o;obtain⟨g1,g2⟩:=q _ o;rcases A0 p k rest (i+1) r z h with⟨rfl,f1,f2⟩|⟨v,j,e',rfl,f1,f3⟩
   ·refine .inl ⟨rfl,by simp[gc,g1,f1],fun x n born hx=>?_⟩;simp only[fX,g2];rw[if_neg (by simp)];simp only[cC];exact⟨e,_,rfl,s,t,f2 x n born hx⟩
   ·refine .inr ⟨v,j+1,e',rfl,?_,f3⟩;simp[gc,g1,f1];omega
  ·simp at h
theorem Bt{T:dg}{cE:Array ed}(c:P.underlying T=some (.struct cE)){b:dk}{a:List dz}{f:Option (Nat×dk)}(h:(gc T b a 0).run P w=.ok f w):(gg T b a).run P w=.ok f w:=by
 unfold gg;simp only[hj,da c,hg];cases a with
 |nil=>
  simp only[gb];simpa[gc]using h
 |cons e es=>
  have:gb (.struct cE) b (e::es) 0=none:=by simp[gb,gl]
  rw[this];exact h
theorem As{T:dg}{key:PV}(h:fc P T key=true)(hl:¬jO key):∃u fs cE,key= .st u fs/\P.underlying T=some (.struct cE)/\cE.toList.all (fun f=>f.name != "_" &&se P f.type)=true/\(dC P 9 T (.st u fs) (.st u fs)).isSome=true:=by
 cases key<;>first
  |exact(hl trivial).elim
  |skip
 rename_i u fs;simp only[fc]at h
 split at h
 ·rename_i cE a;rw[c9]at h;exact⟨u,fs,cE,rfl,a,h.1,h.2⟩
 ·cases h
theorem JP{T:dg}{key:PV}{g:dk}(hk:fc P T key=true)(f:aw P w aa key g){b:List (PV×PV)}{a:List dz}{r:Option PV}(k:cC P w aa b a)(h:fE P T b key=some r):
 (∀e,(ge e 10000 T g).run P w=.ok () w)/\
 ((r=none/\(gg T g a).run P w=.ok none w)\/∃(v:PV)(j:Nat)(e:dz),r=some v/\(gg T g a).run P w=.ok (some (j,e.val)) w/\aw P w aa v e.val):=by
 by_cases hl:jO key
 ·obtain⟨d,c,n⟩:=wP hk hl f;refine⟨fun e=>run_checkKey c n _ 9999,?_⟩;rcases Bs c hk hl f b a 0 r k h with⟨rfl,f1⟩|⟨v,j,e,rfl,f1,f2,f3,f4,_⟩
  ·exact .inl ⟨rfl,run_findKey c f1⟩
  ·exact .inr ⟨v,0+j,e,rfl,run_findKey c f1,f3⟩
 ·obtain⟨u,fs,cE,rfl,i,l,m⟩:=As hk hl;refine⟨fun e=>QK i l m f e,?_⟩;rcases A0 f b a 0 r k h with⟨rfl,f1,_⟩|⟨v,j,e,rfl,f1,f3⟩
  ·exact .inl ⟨rfl,Bt i f1⟩
  ·exact .inr ⟨v,0+j,e,rfl,Bt i f1,f3⟩
theorem GG{T:dg}{key x:PV}{g i:dk}(d:aw P w aa key g)(hx:aw P w aa x i)(born:Nat):∀(a:List (PV×PV))(c:List dz),jO key->cC P w aa a c->fE P T a key=some none->cC P w aa (fX a key x) (c++[{key:=g,val:=i,born}])
 |[],c,_,b,_=>by
  simp only[cC]at b;subst b;simp only[fX,cC];exact⟨_,[],rfl,d,hx,rfl⟩
 |(n,v')::a,c,f,b,h=>by
  simp only[cC]at b;obtain⟨e,rest,rfl,j,k,l⟩:=b;simp only[fE,B5 f]at h
  split at h
  ·simp at h
  ·rename_i m;simp only[fX,m];rw[if_neg (by simp)];simp only[cC];exact⟨e,_,rfl,j,k,GG (T:=T) d hx born a rest f l h⟩
  ·simp at h
def sG(ok:Bool)(z:PV):Option PV->PV
 |some v=>if ok then .aC [v,.bool true]else v
 |none=>if ok then .aC [z,.bool false]else z
theorem SH{T:dg}{c E:dg}{x i:db}{ok:Bool}{key z:PV}{r:Option PV}{k:List (PV×PV)}(C:o.op= .lookup T x i ok)(g:iS P T=some (c,E))(F:cK P E=some z)(hk:fc P c key=true)(hl:fE P c k key=some r)
 {ρc:db->dk}(B:aw P w aa key (ρc i))(hx:(ρc x=.map none/\k=[])\/∃b a d,ρc x=.map (some b)/\w.heap[b]?=some (.map a d)/\cC P w aa k a.toList):
 ∃p,(dl ρc o).run P w=.ok (.value p) w/\aw P w aa (sG ok z r) p:=by
 have m:P.underlying T=some (.map c E):=by
  unfold iS at g
  split at g
  ·rename_i D;simp at g;rw[D,g.1,g.2]
  ·simp at g
 obtain⟨u,t,z2⟩:=Kd F;obtain⟨a,s,n⟩:∃a:Array dz,((ρc x=.map none/\a=#[])\/∃b d,ρc x=.map (some b)/\w.heap[b]?=some (.map a d))/\cC P w aa k a.toList:=by
  rcases hx with⟨hx,rfl⟩|⟨b,a,d,hx,h,n⟩
  ·exact⟨#[],.inl ⟨hx,rfl⟩,by simp[cC]⟩
  ·exact⟨a,.inr ⟨b,d,hx,h⟩,n⟩
 obtain⟨l,y⟩:=JP hk B n hl
 have q:∀(f:Option (Nat×dk))(v:dk)(b:Bool),(gg c (ρc i) a.toList).run P w= .ok f w->(f=none/\v=u/\b=false\/∃j,f=some (j,v)/\b=true)->
  (dl ρc o).run P w=.ok (.value (if ok then .tuple #[v,.bool b]else v)) w:=by
  intro f v b hf A;simp only[dl,C];refine eh ?_;rcases A with⟨rfl,rfl,rfl⟩|⟨j,rfl,rfl⟩
  ·rcases s with⟨hx,rfl⟩|⟨b,d,hx,h⟩
   ·have hf:(gg c (ρc i) []).run P w=.ok none w:=hf;cases ok<;>simp[gj,da m,hx,l,hf,t]
   ·cases ok<;>simp[gj,da m,hx,gt h,l,hf,t]
  ·rcases s with⟨hx,rfl⟩|⟨b,d,hx,h⟩
   ·have hf:(gg c (ρc i) []).run P w=.ok (some (j,v)) w:=hf;cases ok<;>simp[gj,da m,hx,l,hf]
   ·cases ok<;>simp[gj,da m,hx,gt h,l,hf]
 rcases y with⟨rfl,f1⟩|⟨v,j,e,rfl,f1,f3⟩
 ·refine⟨_,q none u false f1 (.inl ⟨rfl,rfl,rfl⟩),?_⟩;cases ok with
  |true=>simp only[sG,if_true,aw,bg];exact⟨_,⟨_,_,rfl,z2 w aa,_,_,rfl,rfl,rfl⟩,rfl⟩
  |false=>simpa[sG]using z2 w aa
 ·refine⟨_,q _ e.val true f1 (.inr ⟨_,rfl,rfl⟩),?_⟩;cases ok with
  |true=>simp only[sG,if_true,aw,bg];exact⟨_,⟨_,_,rfl,f3,_,_,rfl,rfl,rfl⟩,rfl⟩
  |false=>simpa[sG]using f3
theorem ub{T:dg}{c E:dg}{x g:db}{ok:Bool}{key z:PV}{r:Option PV}{es:List (PV×PV)}{aj:List (Nat×Obj)}(f:o.op= .lookup T x g ok)(n:iS P T=some (c,E))(t:cK P E=some z)(hi:ρ g= .p key)(hk:fc P c key=true)(hl:fE P c es key=some r)
 (hx:(ρ x=.p .ff/\es=[])\/ρ x=.p (.eE es)\/∃b fz,ρ x=.map b/\(b,.map fz es)∈aj):
 bh P o ρ base {v:=.p (sG ok z r),aj}:=by
 refine bh.same fun H w aa ah β u s i aj=>?_;have a:=(i x (by simp[f,gy])).1;have e:=(i g (by simp[f,gy])).1;rw[hi]at e;simp only[ar]at e;obtain⟨j,c1,c2⟩:=SH f n t hk hl (ρc:=u) (w:=w) (aa:=aa) e (by
  rcases hx with⟨hx,rfl⟩|hx|⟨b,fz,hx,q⟩
  ·rw[hx]at a;simp only[ar,aw]at a;exact .inl ⟨a,rfl⟩
  ·rw[hx]at a;simp only[ar,aw]at a;obtain⟨b,d,clock,_,k,l,m⟩:=a;exact .inr ⟨b,d,clock,m,k,l⟩
  ·rw[hx]at a;simp only[ar,bI,bO]at a;have h:=aj _ q;obtain⟨d,clock,k1,k2,_⟩:=s.cF b _ h;exact .inr ⟨_,d,clock,a.2.1 ⟨_,h,trivial⟩,k1,k2⟩)
 exact⟨j,c1,by simpa only[ar]using c2,by simp[aB]⟩
theorem SA{T:dg}(e:o.op=.makeMap T none):bh P o ρ base {v:=.map base,aS:=[.map false []]}:=by
 intro H w aa ah β i b j _ d;have a:H[base]?=some .hole:=by simpa using d 0 (by simp)
 have g:(dl i o).run P w=.ok (.value (.map (some w.heap.size))) {w with heap:=w.heap.push (.map #[] 0)}:=by
  simp only[dl,e];exact tP (by simp[Instr.makeMap])
 have f:=rO (cap:=0) b a (ob:=.map #[] 0) (o':=.map false [])
  ⟨#[],0,by simp[Bd.at],by simp[cC],by
   simp only[cB,Bd.at,if_true,c6,if_false];exact⟨fun h=>i5 _ (b.bR _ h),fun h=>i5 _ (b.dT _ h)⟩⟩ trivial
 refine⟨_,_,_,_,aa,g,.inl rfl,f,?_,?_⟩
 ·simp only[ar,bI,bO,kX];exact⟨rfl,fun _=>by simp[Bd.at],fun⟨L,c⟩=>by rw[hz (hw.1 a).1]at c;cases c⟩
 ·simp only[aB,kX];exact⟨_,hz (hw.1 a).1,trivial⟩
theorem BT(f:bQ P w aa β H ah){b:Nat}{o o':Obj}(a:H[b]?=some o)(hl:o.live)(i:o'.live)(m:∀v,o.has v->o'.has v)(j:∀L,o≠ .loop L){ob:Go.Obj}
 (_hb:β.ak b<w.heap.size)(e:¬aa (β.ak b)/\¬ah (β.ak b))(aI:b8 β H β (H.set b o'))
 (n:eL P {w with heap:=w.heap.setIfInBounds (β.ak b) ob} aa β (H.set b o') ah b o')(p:o'.refs (aH (H.set b o'))):
 bU P ah aa w β H aa {w with heap:=w.heap.setIfInBounds (β.ak b) ob} β (H.set b o'):=by
 refine bU.set f (hw.1 a).1 (fun _ _=>⟨rfl,rfl⟩) (fun _ x=>x) (fun _ x=>.inl x) (fun k hk=>by simpa using f.bR k hk) (by simp)
  (fun k hk _=>?_) (fun _=>.inr ⟨rfl,⟨o,a,hl⟩,.inr e.1,e.2⟩) aI n p (fun q v c g=>by rw[a]at c;cases c;exact m v g) (fun L d=>by rw[a]at d;cases d;exact(j L rfl).elim)
 have l:k≠β.ak b:=hk.resolve_right (fun h=>h i);simp[Ne.symm l]
theorem Gd{T s E:dg}{m k x:db}{b:Nat}{key v:PV}{a:List (PV×PV)}{r:Option PV}(f:o.op= .mapUpdate T m k x\/o.op= .insert T m k x)(y:iS P T=some (s,E))(ab:ρ m= .map b)(hk:ρ k= .p key)(hx:ρ x= .p v)
 (hf:fc P s key=true)(hl:lD P s a key=some r):bh P o ρ base {v:=.p (.aC []),aj:=[(b,.map false a)],aK:=[(b,.map false (fX a key v))]}:=by
 have M:P.underlying T=some (.map s E):=by
  unfold iS at y
  split at y
  ·rename_i N;simp at y;rw[N,y.1,y.2]
  ·simp at y
 intro H w aa ah β c S O aj _;have F:H[b]?=some (.map false a):=by simpa using aj
 have L:m∈o.op.operands/\k∈o.op.operands/\x∈o.op.operands:=by
  rcases f with f|f<;>simp[f,gy]
 have i:=(O m L.1).1;have l:=(O k L.2.1).1;have A:=(O x L.2.2).1;rw[ab]at i;rw[hk]at l;rw[hx]at A;simp only[ar,bI,bO]at i l A;have i:=i.2.1 ⟨_,F,trivial⟩;obtain⟨g,clock,k1,k2,k3⟩:=S.cF b _ F;have R:¬aa (β.ak b)/\¬ah (β.ak b):=by
  unfold cB at k3;rw[if_neg (by simp)]at k3;exact k3
 have D:fE P s a key=some r:=by
  by_cases q:jO key
  ·rw[<-Ri q];exact hl
  ·obtain⟨u,fs,cE,rfl,_⟩:=As hf q;simp only[lD]at hl
   split at hl
   ·rename_i hq;rw[hq];exact hl
   ·cases hl
 have J:=(JP hf l k2 D).1 false;have Q:β.ak b<w.heap.size:=(b4.1 k1).1;have aI:b8 β H β (H.set b (.map false (fX a key v))):=om F (.inr (.inr (.inl ⟨_,_,_,_,rfl,rfl⟩)))
 have I:∀(t:Array dz)(z:Nat),(gi T (c m) (c k) (c x)).run P w= .ok () {w with heap:=w.heap.setIfInBounds (β.ak b) (.map t z)}->cC P w aa (fX a key v) t.toList->
  ∃n G w' aJ aD,(dl c o).run P w=.ok n w'/\(n=.value G\/n=.skip/\G=undef)/\
  bU P ah aa w β H aD w' aJ (bd H ([(b,.map false (fX a key v))]++newAt base []))/\ar P w' aD aJ (bd H ([(b,.map false (fX a key v))]++newAt base [])) (.p (.aC [])) G/\
  aB (aH (bd H ([(b,.map false (fX a key v))]++newAt base []))) (.p (.aC [])):=by
  intro t z ae ac;have W:(dl c o).run P w=.ok .skip {w with heap:=w.heap.setIfInBounds (β.ak b) (.map t z)}:=by
   rcases f with f|f<;>simp[dl,f,ae]
  have af:∀C,aa C->({w with heap:=w.heap.setIfInBounds (β.ak b) (.map t z)}:dp).heap[C]?=w.heap[C]?:=by
   intro C Z;have:β.ak b≠C:=fun V=>R.1 (V▸Z);simp[this]
  refine⟨_,_,_,β,aa,W,.inr ⟨rfl,rfl⟩,?_,by simp[ar,aw,bg,undef],by simp[aB]⟩;simp only[newAt,hD,bd];exact BT (o':=.map false (fX a key v)) S F trivial trivial (fun _ h=>h) (fun _ h=>by cases h) Q R aI ⟨t,z,by simp[Q],cC.mono (fun _ x=>x) af _ _ ac,k3⟩ trivial
 by_cases q:jO key
 case neg=>
  obtain⟨u,fs,cE,rfl,N,_,_⟩:=As hf q;have ad:r=none:=by
   simp only[lD]at hl
   split at hl
   ·simpa using hl.symm
   ·cases hl
  subst ad;rcases A0 l a g.toList 0 none k2 D with⟨_,f1,f2⟩|⟨v',j,e,U,_⟩
  ·have B:=Bt N f1;refine I (g.push {key:=c k,val:=c x,born:=clock}) (clock+1) ?_ ?_
   ·rw[i];simp only[gi,hj,da M,hg,gt k1,J,B,run_setObj_map _ k1]
   ·rw[ck];exact f2 v (c x) clock A
  ·cases U
 obtain⟨d,K,X⟩:=wP hf q l;rcases Bs K hf q l a g.toList 0 r k2 D with⟨rfl,f1⟩|⟨v',j,e,rfl,f1,f2,f3,f4,f5⟩
 ·have B:=run_findKey (w:=w) K f1;refine I (g.push {key:=c k,val:=c x,born:=clock}) (clock+1) ?_ ?_
  ·rw[i];simp only[gi,hj,da M,hg,gt k1,J,B,run_setObj_map _ k1]
  ·rw[ck];exact GG (T:=s) l A clock a g.toList q k2 D
 ·have B:=run_findKey (w:=w) K f1;have Y:g[j]?=some e:=by simpa using f2
  refine I (g.modify j fun e=>{e with key:=c k,val:=c x}) clock ?_ ?_
  ·rw[i];simp only[gi,hj,da M,hg,gt k1,J,B];simp only[i9,Y,Option.map_some,Option.getD_some,f4,run_keyThatStays X,hg,run_setObj_map _ k1]
  ·rw[Array.toList_modify];exact f5 v (c x) A
theorem vO{v:PV}:mL v=true->jO v:=by
 cases v<;>simp[mL,jO]
theorem P9{b:Nat}{o o':Obj}(e:H[b]?=some o)(i:o.tC)(d:o'.tC):b8 β H β (H.set b o'):=by
 have g:b<H.length:=(hw.1 e).1;have a:∀x,x≠b->(H.set b o')[x]?=H[x]?:=fun x hx=>hG (Ne.symm hx);have c:(H.set b o')[b]?=some o':=hz g;refine⟨?_,?_,?_,?_,?_⟩
 ·rintro x _ ⟨fz,t,h⟩;refine⟨?_,rfl⟩
  by_cases hx:x=b
  ·subst hx;rw[c]at h;cases h;exact d.elim
  ·rw[a x hx]at h;exact⟨fz,t,h⟩
 ·rintro x _ ⟨fz,t,h⟩;refine⟨?_,rfl⟩
  by_cases hx:x=b
  ·subst hx;rw[c]at h;cases h;exact d.elim
  ·rw[a x hx]at h;exact⟨fz,t,h⟩
 ·rintro x _ ⟨l,h,j⟩;refine⟨?_,rfl⟩
  by_cases hx:x=b
  ·subst hx;exact⟨o,e,i⟩
  ·rw[a x hx]at h;exact⟨l,h,j⟩
 ·intro x al ai k f _ h
  by_cases hx:x=b
  ·subst hx;unfold ez at h;rw[c]at h;cases h;exact d.elim
  ·unfold ez at h⊢;rw[a x hx]at h;exact⟨k,f,h,i4 _,Iff.rfl,fun _=>⟨rfl,rfl⟩⟩
 ·rintro x _ ⟨L,h⟩;refine⟨?_,rfl⟩
  by_cases hx:x=b
  ·subst hx;rw[c]at h;cases h;exact d.elim
  ·rw[a x hx]at h;exact⟨L,h⟩
theorem ES:∀{b:List (PV×PV)}{a:List dz},cC P w aa b a->bg P w aa (b.map (·.1)) (a.map (·.key))/\bt P w aa β H (b.map fun e=>.p e.2) (a.map (·.val))
 |[],a,h=>by
  simp only[cC]at h;subst h;simp[bg,bt]
 |(k,v)::r,a,h=>by
  simp only[cC]at h;obtain⟨e,rest,rfl,c,d,f⟩:=h;obtain⟨i1,i2⟩:=ES f;simp only[hC,bg,bt];exact⟨⟨_,_,rfl,c,i1⟩,⟨_,_,rfl,by simpa only[ar]using d,i2⟩⟩
theorem P8{b:Nat}{d:Obj}{ks:List PV}{vs:List AV}(h:bQ P w aa β H ah)(g:H[b]?=some d)(a:rl d=some (ks,vs)):
 d.tC/\(∃c f,w.heap[β.ak b]?=some (.map c f)/\bg P w aa ks (c.toList.map (·.key))/\bt P w aa β H vs (c.toList.map (·.val))/\cB aa β ah false b)/\aP (aH H) vs:=by
 cases d<;>simp only[rl]at a<;>try (cases a;done)
 case map fz es=>
  cases fz
  case true=>simp at a
  simp only[Option.some.injEq,Prod.mk.injEq]at a;obtain⟨rfl,rfl⟩:=a;obtain⟨c,f,k1,k2,k3⟩:=h.cF b _ g;obtain⟨i1,i2⟩:=ES (β:=β) (H:=H) k2;exact⟨trivial,⟨c,f,k1,i1,i2,k3⟩,b9.2 fun v i=>by obtain⟨e,_,rfl⟩:=ix.1 i;trivial⟩
 case dt j k=>
  simp only[Option.some.injEq,Prod.mk.injEq]at a;obtain⟨rfl,rfl⟩:=a;exact⟨trivial,h.cF b _ g,h.refs b _ g⟩
theorem zK{T:dg}{d:ej}(n:P.underlying T=some d){key:PV}{o:dk}(hk:fc P T key=true)(g:jO key)(m:aw P w aa key o):∀(ks:List PV)(vs:List AV)(c:List dz)(i:Nat)(r:Option AV),bg P w aa ks (c.map (·.key))->bt P w aa β H vs (c.map (·.val))->kx P T ks vs key=some r->
 (r=none/\gb d o c i=some none)\/∃(v:AV)(j:Nat)(e:dz),r=some v/\gb d o c i=some (some (i+j,e.val))/\ar P w aa β H v e.val/\v∈vs
 |[],vs,c,i,r,f,k,h=>by
  cases c with
  |nil=>
   cases vs with
   |nil=>simp[kx]at h;subst h;exact .inl ⟨rfl,rfl⟩
   |cons a b=>simp[kx]at h
  |cons a b=>simp[bg]at f
 |u::ks,vs,c,i,r,f,k,h=>by
  cases c with
  |nil=>simp[bg]at f
  |cons e rest=>
   cases vs with
   |nil=>simp[bt]at k
   |cons v' vs=>
    simp only[hC,bg,bt,List.cons.injEq]at f k;obtain⟨_,_,⟨rfl,rfl⟩,p,q⟩:=f;obtain⟨_,_,⟨rfl,rfl⟩,s,t⟩:=k;simp only[kx,B5 g]at h
    split at h
    ·rename_i l;simp at h;subst h;obtain⟨g1,g2⟩:=yv n hk g l m p;exact .inr ⟨v',0,e,rfl,by simp[gb,g1],s,List.mem_cons_self⟩
    ·rename_i l;obtain⟨g1,g2⟩:=yv n hk g l m p;rcases zK n hk g m ks vs rest (i+1) r q t h with⟨rfl,f1⟩|⟨v,j,e',rfl,f1,f3,f4⟩
     ·exact .inl ⟨rfl,by simp[gb,g1,f1]⟩
     ·exact .inr ⟨v,j+1,e',rfl,by simp[gb,g1,f1];omega,f3,hF _ f4⟩
    ·simp at h
def po(ok:Bool)(z:PV):Option AV->AV
 |some v=>if ok then .aC [v,.p (.bool true)]else v
 |none=>.p (if ok then .aC [z,.bool false]else z)
theorem EH{T:dg}{f E:dg}{x k:db}{ok:Bool}{key z:PV}{r:Option AV}{b:Nat}{ks:List PV}{vs:List AV}(i:o.op= .lookup T x k ok)(c:iS P T=some (f,E))(C:cK P E=some z)(hi:ρ k= .p key)(hk:fc P f key=true)(n:mL key=true)(hl:kx P f ks vs key=some r)
 (hx:ρ x=.map b):bh P o ρ base {v:=po ok z r,aj:=[(b,.dt ks vs)]}:=by
 refine bh.same fun H w aa ah β F s t aj=>?_;have a:=(t x (by simp[i,gy])).1;have g:=(t k (by simp[i,gy])).1;rw[hi]at g;simp only[ar]at g;rw[hx]at a;simp only[ar,bI,bO]at a;have l:H[b]?=some (.dt ks vs):=by simpa using aj
 obtain⟨y,clock,k1,k2,k3,_⟩:=s.cF b _ l;have hrefs:aP (aH H) vs:=s.refs b _ l;have a:=a.2.1 ⟨_,l,trivial⟩;have q:P.underlying T=some (.map f E):=by
  unfold iS at c
  split at c
  ·rename_i B;simp at c;rw[B,c.1,c.2]
  ·simp at c
 obtain⟨u,D,z2⟩:=Kd C;obtain⟨d,h,A⟩:=wP hk (vO n) g;have m:∀e,(ge e 10000 f (F k)).run P w=.ok () w:=fun e=>run_checkKey h A _ 9999;rcases zK h hk (vO n) g ks vs y.toList 0 r k2 k3 hl with⟨rfl,f1⟩|⟨v,j,e,rfl,f1,f3,f4⟩
 ·have hf:=run_findKey (w:=w) h f1;refine⟨if ok then .tuple #[u,.bool false]else u,?_,?_,by cases ok<;>simp[po,aB]⟩
  ·simp only[dl,i];refine eh ?_;cases ok<;>simp[gj,da q,a,gt k1,m,hf,D]
  ·cases ok with
   |true=>simp only[po,if_true,ar,aw,bg];exact⟨_,⟨_,_,rfl,z2 w aa,_,_,rfl,rfl,rfl⟩,rfl⟩
   |false=>simpa[po,ar]using z2 w aa
 ·have hf:=run_findKey (w:=w) h f1;refine⟨if ok then .tuple #[e.val,.bool true]else e.val,?_,?_,?_⟩
  ·simp only[dl,i];refine eh ?_;cases ok<;>simp[gj,da q,a,gt k1,m,hf]
  ·cases ok with
   |true=>simp only[po,if_true,ar,bt,aw];exact⟨_,⟨_,_,rfl,f3,_,_,rfl,rfl,rfl⟩,rfl⟩
   |false=>simpa[po]using f3
  ·have:=b9.1 hrefs v f4;cases ok<;>simp[po,aB,aP,this]
theorem ER{w:dp}{aa:Nat->Prop}{k:PV}{x:dk}:∀{a:List PV}{l:List dk},bg P w aa a l->aw P w aa k x->bg P w aa (a++[k]) (l++[x])
 |[],l,h,hx=>by simp only[bg]at h;subst h;simp only[h4,bg];exact⟨_,_,rfl,hx,rfl⟩
 |v::a,l,h,hx=>by
  simp only[bg]at h;obtain⟨y,d,rfl,b,c⟩:=h;simp only[List.cons_append,bg];exact⟨_,_,rfl,b,ER c hx⟩
theorem vM{T i E:dg}{m k x:db}{b:Nat}{key:PV}{u:Obj}{ks:List PV}{vs:List AV}(c:o.op= .mapUpdate T m k x\/o.op= .insert T m k x)(g:iS P T=some (i,E))(Z:ρ m= .map b)(hk:ρ k= .p key)
 (hf:fc P i key=true)(O:rl u=some (ks,vs))(F:mL key=true)(hl:kx P i ks vs key=some none):bh P o ρ base {v:=.p (.aC []),aj:=[(b,u)],aK:=[(b,.dt (ks++[key]) (vs++[ρ x]))]}:=by
 have ab:P.underlying T=some (.map i E):=by
  unfold iS at g
  split at g
  ·rename_i ad;simp at g;rw[ad,g.1,g.2]
  ·simp at g
 intro H w aa ah β a G B aj _;have s:H[b]?=some u:=by simpa using aj
 have A:m∈o.op.operands/\k∈o.op.operands/\x∈o.op.operands:=by
  rcases c with c|c<;>simp[c,gy]
 have n:=(B m A.1).1;have q:=(B k A.2.1).1;obtain⟨M,N⟩:=B x A.2.2;rw[Z]at n;rw[hk]at q;simp only[ar,bI,bO]at n q;obtain⟨r,⟨l,clock,k1,k2,k3,k4⟩,ae⟩:=P8 G s O;have n:=n.2.1 ⟨_,s,r⟩;have D:¬aa (β.ak b)/\¬ah (β.ak b):=by
  unfold cB at k4;rw[if_neg (by simp)]at k4;exact k4
 obtain⟨d,z,W⟩:=wP hf (vO F) q;have R:(ge false 10000 i (a k)).run P w=.ok () w:=run_checkKey z W _ 9999;have C:β.ak b<w.heap.size:=(b4.1 k1).1;have Q:b<H.length:=(hw.1 s).1;have aI:b8 β H β (H.set b (.dt (ks++[key]) (vs++[ρ x]))):=P9 s r trivial;rcases zK z hf (vO F) q ks vs l.toList 0 none k2 k3 hl with⟨_,f1⟩|⟨v',j,e,L,_⟩
 case inr=>cases L
 have V:=run_findKey (w:=w) z f1;have ac:(gi T (a m) (a k) (a x)).run P w=.ok () {w with heap:=w.heap.setIfInBounds (β.ak b) (.map (l.push {key:=a k,val:=a x,born:=clock}) (clock+1))}:=by
  rw[n];simp only[gi,hj,da ab,hg,gt k1,R,V,run_setObj_map _ k1]
 have U:(dl a o).run P w=.ok .skip {w with heap:=w.heap.setIfInBounds (β.ak b) (.map (l.push {key:=a k,val:=a x,born:=clock}) (clock+1))}:=by
  rcases c with c|c<;>simp[dl,c,ac]
 have I:∀t,aa t->({w with heap:=w.heap.setIfInBounds (β.ak b) (.map (l.push {key:=a k,val:=a x,born:=clock}) (clock+1))}:dp).heap[t]?=w.heap[t]?:=by
  intro t Y;have:β.ak b≠t:=fun S=>D.1 (S▸Y);simp[this]
 have X:∀y,aH H y->aH (H.set b (.dt (ks++[key]) (vs++[ρ x]))) y:=by
  rintro⟨y,v⟩ ⟨ag,af,f⟩
  by_cases K:b=y
  ·subst K;exact⟨.dt (ks++[key]) (vs++[ρ x]),by simp only;rw[hz Q],trivial⟩
  ·exact⟨ag,by simp only;rw[hG K];exact af,f⟩
 have J:aP (aH H) (vs++[ρ x]):=b9.2 fun v f=>by
  rcases ii.1 f with f|f
  ·exact b9.1 ae v f
  ·rw[h0.1 f];exact N
 refine⟨_,_,_,β,aa,U,.inr ⟨rfl,rfl⟩,?_,by simp[ar,aw,bg,undef],by simp[aB]⟩;simp only[newAt,hD,bd];refine BT (o':=.dt (ks++[key]) (vs++[ρ x])) G s (by cases u<;>first|trivial|exact r.elim) trivial (fun _ _=>trivial) (fun _ h=>by rw[h]at r;exact r.elim) C D aI ⟨l.push {key:=a k,val:=a x,born:=clock},clock+1,by simp[C],?_,?_,k4⟩ (aP.mono X _ J)
 ·rw[ck,hJ];exact bg.mono (fun _ x=>x) I _ _ (ER k2 q)
 ·rw[ck,hJ];refine bt.mono (fun _ x=>x) I aI _ _ J (n7 k3 ?_);simp only[hC,hS,bt];exact⟨_,_,rfl,M,rfl⟩
theorem vN{c:dg}{b:Nat}{key:PV}{x:AV}{a:Obj}{K:aU->Prop}(h:nV P c b key x a K):∃ks vs,rl a=some (ks,vs)/\mL key=true/\kx P c ks vs key=some none/\K {v:=.p (.aC []),aj:=[(b,a)],aK:=[(b,.dt (ks++[key]) (vs++[x]))]}:=by
 unfold nV at h
 split at h
 ·rename_i ks vs d;exact⟨ks,vs,d,h⟩
 ·exact h.elim
end
section
variable{P:dq}{w:dp}{aa ah:Nat->Prop}{β:Bd}{H:Heap}
variable{o:Oper}{ρ:db->AV}{base:Nat}
theorem Rz(bs:ByteArray):fS (iD bs)=bs:=by
 unfold fS iD;apply ByteArray.ext;apply b5;simp only[hT];have:(j8∘fun x:UInt8=>x.toNat)=id:=by funext x;simp
 rw[this];simp
theorem UW{T:dg}{x:db}{s:List Nat}(d:o.op=.range T x)(hx:ρ x=.p (.str s))(e:gY P T=true):bh P o ρ base {v:=.ptr base [],aS:=[.dv s 0]}:=by
 intro H w aa ah β k b j _ f;have c:H[base]?=some .hole:=by simpa using f 0 (by simp)
 have a:=(j x (by simp[d,gy])).1;rw[hx]at a;simp only[ar,aw]at a;obtain⟨bs,e1,e2⟩:=a;have i:(dl k o).run P w=.ok (.value (.pointer (some ⟨w.heap.size,0,none⟩))) {w with heap:=w.heap.push (.stringIter bs 0)}:=by
  simp only[dl,d,e1];exact tP (by simp[Instr.range,da (wE e)])
 have g:=rO (cap:=0) b c (ob:=.stringIter bs 0) (o':=.dv s 0)
  ⟨bs,by simp[Bd.at],e2,by
   simp only[cB,Bd.at,if_true,c6,if_false];exact⟨fun h=>i5 _ (b.bR _ h),fun h=>i5 _ (b.dT _ h)⟩⟩ trivial
 refine⟨_,_,_,_,aa,i,.inl rfl,g,?_,?_⟩
 ·simp only[ar,bI,bO,kX];exact⟨rfl,_,_,0,rfl,rfl,fun _=>by simp[Bd.at]⟩
 ·simp only[aB,kX];exact⟨_,hz (hw.1 c).1,trivial⟩
theorem azL{it:db}{b:Nat}{s:List Nat}{pos:Nat}(g:o.op= .next it true)(hx:ρ it= .ptr b []):
 (pos<s.length->bh P o ρ base {v:=.p (.aC [.bool true,.int .i64 pos,.int .i32 (ho (fS s) pos).1]),aj:=[(b,.dv s pos)],aK:=[(b,.dv s (pos+(ho (fS s) pos).2))]})/\
 (¬pos<s.length->bh P o ρ base {v:=.p (.aC [.bool false]),aj:=[(b,.dv s pos)]}):=by
 have key:∀{H:Heap}{w:dp}{aa ah:Nat->Prop}{β:Bd}{e:db->dk},bQ P w aa β H ah->(∀x∈o.op.operands,ar P w aa β H (ρ x) (e x)/\aB (aH H) (ρ x))->H[b]?=some (.dv s pos)->
  e it=.pointer (some ⟨β.ak b,0,none⟩)/\∃bs:ByteArray,w.heap[β.ak b]?=some (.stringIter bs pos)/\s=iD bs/\(¬aa (β.ak b)/\¬ah (β.ak b)):=by
  intro H w aa ah β e d f a;have c:=(f it (by simp[g,gy])).1;rw[hx]at c;simp only[ar,bI,bO]at c;obtain⟨_,ak,off,t,m,k,n⟩:=c;simp[fL]at k;subst k;obtain⟨rfl,rfl⟩:=n (.inr ⟨_,_,a⟩);obtain⟨bs,k1,k2,k3⟩:=d.cF b _ a;unfold cB at k3;rw[if_neg (by simp)]at k3;exact⟨m,bs,k1,k2,k3⟩
 constructor
 ·intro i H w aa ah β e d f aj _;have a:H[b]?=some (.dv s pos):=by simpa using aj
  obtain⟨c,bs,k1,rfl,k3⟩:=key d f a;have j:pos<bs.size:=by simpa[iD]using i
  have l:β.ak b<w.heap.size:=(b4.1 k1).1;rw[Rz];have r:(dl e o).run P w=.ok (.value (.tuple #[.bool true,goInt pos,.int .i32 (ho bs pos).1])) {w with heap:=w.heap.setIfInBounds (β.ak b) (.stringIter bs (pos+(ho bs pos).2))}:=by
   simp only[dl,g,c];refine tP ?_;simp[gm,getObj,setObj,hn,k1,hh,j]
  have aI:b8 β H β (H.set b (.dv (iD bs) (pos+(ho bs pos).2))):=om a (.inr (.inr (.inr ⟨_,_,_,rfl,rfl⟩)));have q:=BT (o':=.dv (iD bs) (pos+(ho bs pos).2)) (ob:=.stringIter bs (pos+(ho bs pos).2)) d a trivial trivial (fun _ h=>h) (fun _ h=>by cases h) l k3 aI
   ⟨bs,by simp[l],rfl,by unfold cB;rw[if_neg (by simp)];exact k3⟩ trivial
  refine⟨_,_,_,β,aa,r,.inl rfl,?_,?_,by simp[aB]⟩
  ·simpa only[newAt,hD,bd]using q
  ·simp only[ar,aw,bg];exact⟨_,⟨_,_,rfl,rfl,_,_,rfl,rfl,_,_,rfl,rfl,rfl⟩,rfl⟩
 ·intro i;refine bh.same fun H w aa ah β e d f aj=>?_;have a:H[b]?=some (.dv s pos):=by simpa using aj
  obtain⟨c,bs,k1,rfl,k3⟩:=key d f a;have j:¬pos<bs.size:=by simpa[iD]using i
  refine⟨.tuple #[.bool false],?_,by simp only[ar,aw,bg];exact⟨_,⟨_,_,rfl,rfl,rfl⟩,rfl⟩,by simp[aB]⟩;simp only[dl,g,c];refine eh ?_;simp[gm,getObj,hn,k1,hh,j]
theorem UX{T u:dg}{x:db}{f:Nat}{fs:Array ed}{t g:PV}{F:dg}(h:o.op= .field T x f)(hk:kindOf P T= .agg u)(b:P.underlying T=some (.struct fs))(hx:ρ x= .p t)(hs:aL t= .agg u)(e:(cE t)[f]?=some g)(q:(je P u)[f]?=some F)(r:kindOf P F=aL g):
 bh P o ρ base {v:=.p g}:=by
 refine bh.same fun H w aa ah β K E z _=>?_;have a:=(z x (by simp[h,gy])).1;rw[hx]at a;simp only[ar]at a;cases t<;>simp[aL]at hs;rename_i u' m;subst hs;simp only[cE]at e;simp only[aw]at a;obtain⟨l,d,k1,k2,k3⟩:=a;obtain⟨D,G,s1,s2,I,j,J,A⟩:=tR (P:=P) (T:=T) (u:=u') (n:=fs.size) (by unfold fZ;rw[hk,b]);rw[b]at s1;cases s1;rw[k1]at j;cases j;have s:bH P w aa ⟨id,id⟩ [] l (m.map .p) d:=mZ.2 k2;obtain⟨pre,c,post,e1,e2,e3,e4,e5,_⟩:=rZ (f:=.p g) (i:=f) s (by simp[e]);simp only[bf]at e5;obtain⟨C,g1,g2,g3,g4,g5⟩:=A f (by omega);rw[q]at g5;cases g5;obtain⟨y,k,B⟩:=pW r e5 (pre:=pre) (post:=post) (cs:=d.flatten.toArray) (by simpa using e1);refine⟨y,?_,by simpa only[ar]using B,by simp[aB]⟩;simp only[dl,h,k3];refine eh ?_;rw[e2,<-g2]at k;simp only[Instr.field,hj,da b,hg,g1];simp[asAgg,k]
theorem Sg{T u:dg}{n:Nat}{x k:db}{O:em}{i:Int}{a:List PV}{g:PV}{F:dg}(j:o.op= .index T x k)(A:gM P T=some (u,n))(hx:ρ x= .p (.st u a))(hi:ρ k= .p (.int O i))
 (z:0<=i)(J:i.toNat<n)(h:(je P u)[i.toNat]?=some F)(E:a[i.toNat]?=some g)(G:kindOf P F=aL g):bh P o ρ base {v:=.p g}:=by
 refine bh.same fun H w aa ah β S R s _=>?_;have b:=(s x (by simp[j,gy])).1;have d:=(s k (by simp[j,gy])).1;rw[hx]at b;rw[hi]at d;simp only[ar,aw]at b d;obtain⟨l,m,k1,k2,k3⟩:=b;obtain⟨e,r,hk,hl,K⟩:=rU A;rw[k1]at hl;cases hl;have B:F=e:=by
  obtain⟨D,_,_⟩:=Aq hk;have C:(P.info? u).map (fun i:TypeInfo=>i.desc)=some (.array n e):=by rw[D,<-z8,r]
  unfold je at h;rw[C]at h;have q:(hB n e)[i.toNat]?=some F:=h;rw[List.getElem?_replicate,if_pos J]at q;exact(Option.some.inj q).symm
 subst B;have L:bH P w aa ⟨id,id⟩ [] (hB n (P.cellsOf F)) (a.map .p) m:=mZ.2 k2;obtain⟨pre,c,post,e1,e2,e3,e4,e5,_⟩:=rZ (f:=.p g) (i:=i.toNat) L (by simp[E]);simp only[bf]at e5;obtain⟨y,t,Q⟩:=pW G e5 (pre:=pre) (post:=post) (cs:=m.flatten.toArray) (by simpa using e1);have M:((hB n (P.cellsOf F)).take i.toNat).sum=i.toNat*P.cellsOf F:=by rw[List.take_replicate,Nat.min_eq_left (by omega),List.sum_replicate_nat]
 have N:(sizeOf F).run P w=.ok (P.cellsOf F) w:=by
  cases hi:P.info? F with
  |none=>simp[Program.cellsOf,hi]at K
  |some i=>simp[sizeOf,typeInfo,hi,Program.cellsOf]
 refine⟨y,?_,by simpa only[ar]using Q,by simp[aB]⟩;simp only[dl,j,k3,d];refine eh ?_;have I:i<(n:Int):=by omega
 rw[e2,M]at t;simp only[Instr.index,asIntOf,hj,hm,da r,hg];simp[z,I,N,t]
theorem Gq{k:em}{f:Bool}{ρc:db->dk}:∀(l:List db)(a n:Int),lr k f (l.map ρ) a=some n->(∀x∈l,ar P w aa β H (ρ x) (ρc x))->
 ((l.map ρc).foldlM (if f then e9 else e8) (.int k a)).run P w=.ok (.int k n) w
 |[],a,n,h,_=>by simp[lr]at h;subst h;simp
 |x::l,a,n,h,g=>by
  simp only[hC]at h;unfold lr at h
  split at h
  ·rename_i e;cases e
  ·rename_i j b r a' e;simp at e;obtain⟨e1,rfl⟩:=e
   split at h
   case isFalse=>simp at h
   rename_i hk;subst hk;have d:=g x (by simp);rw[e1]at d;simp only[ar,aw]at d;have c:=Gq l _ n h (fun y i=>g y (by simp[i]));simp only[hC,List.foldlM_cons,hj,d];cases f with
   |true=>simp only[if_true,e9,hm,hg]at c⊢;exact c
   |false=>simp only[c6,if_false,e8,hm,hg]at c⊢;exact c
  ·simp at h
theorem HQ{c:Call}{isMax:Bool}{k:em}{a n:Int}{r:List AV}(j:o.op= .call c)(hc:c.callee= .builtin (if isMax then .max else .min))(b:c.args.toList.map ρ= .p (.int k a)::r)(h:lr k isMax r a=some n):
 bh P o ρ base {v:=.p (.int k n)}:=by
 obtain⟨x,l,hl⟩:∃x l,c.args.toList=x::l:=by
  cases q:c.args.toList with
  |nil=>rw[q]at b;simp at b
  |cons x l=>exact⟨x,l,rfl⟩
 rw[hl]at b;simp at b;obtain⟨hx,rfl⟩:=b;have g:c.args=(x::l).toArray:=by apply b5;simpa using hl
 have i:∀y∈x::l,y∈o.op.operands:=by
  intro y f;rw[j];simp only[gy,ga,hc,g];simpa using f
 refine bh.same fun H w aa ah β s t m _=>⟨.int k n,?_,by simp[ar,aw],by simp[aB]⟩
 have d:=(m x (i x (by simp))).1;rw[hx]at d;simp only[ar,aw]at d;have e:=Gq (ρc:=s) l a n h (fun y f=>(m y (i y (by simp[f]))).1);simp only[dl,j,resolve,hc,g];cases isMax with
 |true=>
  simp only[if_true]at e⊢;simp[invoke,builtin,fl,d,e]
 |false=>
  simp only[c6,if_false]at e⊢;simp[invoke,builtin,fd,d,e]
theorem azH{c:Call}{d x:db}{sz b al off len:Nat}{k:AK}{f g:List AV}{H0:Heap}(U:o.op= .call c)(hc:c.callee= .builtin .copy)(O:c.args.toList=[d,x])(au:c.argTypes.size=2)(t:cN P (c.argTypes.getD 0 0)=some sz)
 (ac:ρ d=.sl b al sz off len)(hx:gA H0 (ρ x)=some g)(aq:dV P sz g)(hk:k≠.frozen)(hl:off+len<=f.length)(C:¬c8 k f):
 bh P o ρ base {v:=.p (.int .i64 (min g.length len:Nat)),aj:=(b,.arr k al sz f)::dx H0 (ρ x),aK:=[(b,.arr k al sz (f.take off++g.take (min g.length len)++f.drop (off+min g.length len)))]}:=by
 obtain⟨T,X,N⟩:∃T X,c.argTypes=#[T,X]:=by
  obtain⟨l,hl⟩:∃l,l=c.argTypes.toList:=⟨_,rfl⟩
  have s:l.length=2:=by rw[hl];simpa using au
  match l,s with
  |[a,b],_=>exact⟨a,b,by apply b5;simp[<-hl]⟩
 have G:d∈o.op.operands/\x∈o.op.operands:=by
  have ab:c.args=#[d,x]:=by apply b5;simpa using O
  rw[U];simp[gy,ga,hc,ab]
 have e1:c.argTypes.getD 0 0=T:=by rw[N];rfl
 rw[e1]at t;obtain⟨e,i,t⟩:=jH t;intro H w aa ah β Z D L aj _;have r:H[b]?=some (.arr k al sz f):=aj (b,_) (by simp);have j:=(L d G.1).1;rw[ac]at j;simp only[ar,bI,bO]at j;obtain⟨_,_,j⟩:=j.2 k f r;have j:=j C;rcases D.cF b _ r with hold|⟨cs,E,aD,rest,k1,k2,k3,k4,k5,k6,k7,k8⟩
 ·exact(C hold).elim
 have R:¬aa (β.ak b)/\¬ah (β.ak b):=by
  unfold cB at k7;rw[if_neg (by simpa using hk)]at k7;exact k7
 obtain⟨aC,ax,ay,az,aA⟩:=uz (oX hx (fun p am=>aj p (hF _ am))) D (L x G.2).1 (L x G.2).2 aq;obtain⟨n,S⟩:∃n,n=min g.length len:=⟨_,rfl⟩
 rw[<-S];have Y:=aA w rfl n (by omega);obtain⟨y,m,z,g1,g2,g3,g4,g5⟩:=jt ax 0 n (by omega);have av:y=[]:=by have:=(fA g4).1;simpa using this
 subst av;have ag:aC.take n=m:=by
  have:=(fA g2).1;rw[g1];simp at this⊢;rw[List.take_left' (by omega)]
 rw[ag]at Y;simp only[h5]at g2;obtain⟨a,M,q,f1,f2,f3,f4,f5⟩:=jt k2 off n (by omega);have I:m.flatten.length=n*sz:=by have:=(fA g2).2;rw[this];congr 1;simp;omega
 have J:M.flatten.length=n*sz:=by have:=(fA f2).2;rw[this];congr 1;simp;omega
 have Q:cs.toList=a.flatten++M.flatten++(q.flatten++rest):=by rw[k3,f1];simp
 have W:cs.size=a.flatten.length+M.flatten.length+(q.flatten++rest).length:=by
  have:=congrArg h3 Q;simp only[hA,cc]at this;rw[this,hA]
 have K:=ei P (β.ak b) (off*sz) E m.flatten 0 cs w k1 (by rw[W,f3,I,J];simp only[i7];exact i8 _ _) (uH g2);simp only[i7]at K;have aS:cs.toList.take (off*sz)++m.flatten++cs.toList.drop (off*sz+m.flatten.length)=a.flatten++m.flatten++(q.flatten++rest):=by
  rw[Q,<-f3,I,<-J];exact Aa _ _ _ _
 rw[aS]at K;have ao:(e7 c.argTypes o.type #[Z d,Z x]).run P w=.ok (goInt n) (w.setRow (β.ak b) (a.flatten++m.flatten++(q.flatten++rest)).toArray):=by
  rw[N,j];have ai:Nat.min g.length len=n:=S.symm;have aE:∀(p:Option Addr)(n c:Nat),fm (.slice p n c)=pure n:=fun _ _ _=>rfl;simp[e7,da t.fT,az,ai,t.run,Y,K]
 have B:(f.take off++g.take n++f.drop (off+n)).length=f.length:=by simp;omega
 have aI:b8 β H β (H.set b (.arr k al sz (f.take off++g.take n++f.drop (off+n)))):=om r (.inr (.inl ⟨_,_,_,_,_,rfl,rfl,B.symm⟩));have ap:∀A,aa A->(w.setRow (β.ak b) (a.flatten++m.flatten++(q.flatten++rest)).toArray).heap[A]?=w.heap[A]?:=fun A af=>ea w _ A _ (fun F=>R.1 (F▸af));have hrefs:aP (aH H) (f.take off++g.take n++f.drop (off+n)):=by
  have V:=b9.1 (D.refs b _ r);refine jr (jr ?_ ?_) ?_
  ·rw[b9];exact fun v u=>V v (hH u)
  ·rw[b9];exact fun v u=>b9.1 ay v (hH u)
  ·rw[b9];exact fun v u=>V v (hO u)
 have ad:=lA r (o:=.arr k al sz (f.take off++g.take n++f.drop (off+n))) (fun _ h=>h);have ak:¬c8 k (f.take off++g.take n++f.drop (off+n)):=fun h=>C ⟨h.1,by have s:=h.2;rw[<-hQ]at s⊢;rw[B]at s;exact s⟩;have an:=pq D r C (o':=.arr k al sz (f.take off++g.take n++f.drop (off+n))) ak (fun _ h=>h) k1 (new:=(a.flatten++m.flatten++(q.flatten++rest)).toArray) R aI
  (.inr ⟨_,E,a++m++q,rest,eb w _ _ _ E _ k1,by
   refine Row.mono (fun _ x=>x) ap aI hrefs (ky.2 ⟨_,_,rfl,ky.2 ⟨_,_,rfl,f4,g2⟩,f5⟩),by simp,by
   rw[<-k4,W];simp only[hK,hA,I,J],by rw[B];exact k5,fun F=>by rw[B];exact k6 F,k7,(fun ae=>(hk ae).elim),k8.2⟩) (aP.mono ad _ hrefs)
 refine⟨_,_,_,β,aa,TW U hc O ao,.inl rfl,?_,by simp[ar,aw,goInt],by simp[aB]⟩;simpa only[newAt,hD,bd]using an
end
section
variable{P:dq}{w:dp}{aa ah:Nat->Prop}{β:Bd}{H:Heap}
variable{o:Oper}{ρ:db->AV}{base:Nat}
theorem xN{c:Call}{x:db}(e:o.op=.call c){b:Builtin}(hc:c.callee=.builtin b)(d:c.args.toList=[x]):x∈o.op.operands/\c.args=#[x]:=by
 have a:c.args=#[x]:=by apply b5;simpa using d
 refine⟨?_,a⟩;rw[e];simp only[gy,ga,hc,a];simp
theorem wD{T:dg}{a:AV}(h:gI P T a=true)(hs:(∃b v e i l,a=.sl b v e i l)\/a=.p .aG\/∃f c,a=.p (.bw f c)):∃e,P.underlying T=some (.slice e):=by
 rcases hs with⟨b,v,e,i,l,rfl⟩|rfl|⟨f,c,rfl⟩<;>
 ·simp only[gI]at h
  split at h
  ·rename_i e d;exact⟨e,d⟩
  ·simp at h
theorem azG{c:Call}{x:db}{n:Nat}{aj:List (Nat×Obj)}{H0:Heap}(u:o.op= .call c)(hc:c.callee= .builtin .cap)(z:c.args.toList=[x])(hl:yN H0 (ρ x)=some (n,aj))(k:gI P (c.argTypes.getD 0 0) (ρ x)=true)(E:0<c.argTypes.size):
 bh P o ρ base {v:=.p (.int .i64 n),aj}/\(∀p∈aj,H0[p.1]?=some p.2):=by
 obtain⟨m,A⟩:=xN u hc z;have B:c.argTypes[0]?=some (c.argTypes.getD 0 0):=by simp[cx,E]
 generalize c.argTypes.getD 0 0=T at*
 have i:∀{H:Heap}{w:dp}{aa:Nat->Prop}{β:Bd}{d:db->dk},(∃p l,d x= .slice p l n)->(∃e,P.underlying T=some (.slice e))->
  ∃r,(dl d o).run P w=.ok (.value r) w/\ar P w aa β H (.p (.int .i64 n)) r/\aB (aH H) (.p (.int .i64 n)):=by
  rintro H w aa β d ⟨p,l,hx⟩ ⟨e,F⟩;refine⟨goInt n,?_,by simp[ar,aw,goInt],by simp[aB]⟩;simp only[dl,u,resolve,hc,A];simp[invoke,builtin,fv,B,hx,da F]
 unfold yN at hl
 split at hl
 ·rename_i hx;simp at hl;obtain⟨rfl,rfl⟩:=hl;refine⟨bh.same fun H w aa ah β d q f aj=>i ?_ (wD k (.inr (.inl hx))),by simp⟩;have a:=(f x m).1;rw[hx]at a;simp only[ar,aw]at a;exact⟨_,_,a⟩
 ·rename_i g hx;simp at hl;obtain⟨rfl,rfl⟩:=hl;refine⟨bh.same fun H w aa ah β d q f aj=>i ?_ (wD k (.inr (.inr ⟨_,_,hx⟩))),by simp⟩;have a:=(f x m).1;rw[hx]at a;simp only[ar,aw]at a;obtain⟨_,_,cap,_,_,_,_,_,y,_,_,_,j⟩:=a;exact⟨_,_,by rw[j,y trivial]⟩
 ·rename_i b al ai off len hx
  split at hl
  case h_2=>simp at hl
  rename_i K J g D
  split at hl
  case isFalse=>simp at hl
  rename_i C;obtain⟨rfl,rfl,hle⟩:=C;simp at hl;obtain⟨rfl,rfl⟩:=hl;refine⟨bh.same fun H w aa ah β d q f aj=>i ?_ (wD k (.inl ⟨_,_,_,_,_,hx⟩)),by simpa using D⟩;have t:H[b]?=some (.arr .exact al ai g):=by simpa using aj
  have a:=(f x m).1;rw[hx]at a;simp only[ar,bI,bO]at a;obtain⟨_,_,j⟩:=a.2 _ _ t;have s:¬c8 .exact g:=fun h=>by simp[c8,AK.gr]at h
  rcases q.cF b _ t with hold|⟨cs,G,I,rest,k1,k2,k3,k4,k5,k6,_⟩
  ·exact(s hold).elim
  exact⟨_,_,by rw[j s,k6 rfl]⟩
 ·simp at hl
theorem Q0{c:Call}{x:db}(b:o.op= .call c)(hc:c.callee= .builtin .clear)(f:c.args.toList=[x])(hx:ρ x= .p .aG)(d:gI P (c.argTypes.getD 0 0) (ρ x)=true)(j:0<c.argTypes.size):
 bh P o ρ base {v:=.p (.aC [])}:=by
 obtain⟨i,g⟩:=xN b hc f;have h:c.argTypes[0]?=some (c.argTypes.getD 0 0):=by simp[cx,j]
 generalize c.argTypes.getD 0 0=T at*;obtain⟨e,k⟩:=wD d (.inr (.inl hx));refine bh.same fun H w aa ah β n m l aj=>?_;have a:=(l x i).1;rw[hx]at a;simp only[ar,aw]at a;refine⟨.tuple #[],?_,by simp[ar,aw,bg],by simp[aB]⟩;simp only[dl,b,resolve,hc,g];simp[invoke,builtin,eq,h,a,da k]
theorem UY{c:Call}{x:db}{sz b al off len:Nat}{k:AK}{d:List AV}{z:PV}(M:o.op= .call c)(hc:c.callee= .builtin .clear)(W:c.args.toList=[x])(ak:0<c.argTypes.size)(l:cN P (c.argTypes.getD 0 0)=some sz)
 (am:cK P (dQ P (c.argTypes.getD 0 0))=some z)(av:bE P (aL z)=sz)(hx:ρ x=.sl b al sz off len)(hk:k≠.frozen)(hl:off+len<=d.length)(t:¬c8 k d)(au:0<len):
 bh P o ρ base {v:=.p (.aC []),aj:=[(b,.arr k al sz d)],aK:=[(b,.arr k al sz (d.take off++hB len (.p z)++d.drop (off+len)))]}:=by
 obtain⟨ad,X⟩:=xN M hc W;have Y:c.argTypes[0]?=some (c.argTypes.getD 0 0):=by simp[cx,ak]
 obtain⟨e,i,l⟩:=jH l;obtain⟨ax,r,U,z2,z3,z4⟩:=n6 am;rw[l.ph]at U;intro H w aa ah β V D ap aj _;have j:H[b]?=some (.arr k al sz d):=aj (b,_) (by simp);have g:=(ap x ad).1;rw[hx]at g;simp only[ar,bI,bO]at g;obtain⟨_,_,g⟩:=g.2 k d j;have g:=g t;rcases D.cF b _ j with hold|⟨cs,u,aq,rest,k1,k2,k3,k4,k5,k6,k7,k8⟩
 ·exact(t hold).elim
 have K:¬aa (β.ak b)/\¬ah (β.ak b):=by
  unfold cB at k7;rw[if_neg (by simpa using hk)]at k7;exact k7
 have Q:=z3 w aa;have R:r.cells.size=sz:=by have:=(mW Q).1;simp at this;omega
 have ao:r.cells.toList.length=sz:=by simpa using R
 have E:=tS (β:=β) (H:=H) Q len;rw[ao]at E;obtain⟨m,L⟩:∃m,m=hB len r.cells.toList:=⟨_,rfl⟩
 rw[<-L]at E;have F:Row P w aa β H sz (hB len (.p z)) m:=by
  exact E
 obtain⟨a,I,f,f1,f2,f3,f4,f5⟩:=jt k2 off len hl;have B:m.flatten.length=len*sz:=by have:=(fA F).2;rw[this];simp
 have C:I.flatten.length=len*sz:=by have:=(fA f2).2;rw[this];congr 1;simp;omega
 have J:cs.toList=a.flatten++I.flatten++(f.flatten++rest):=by rw[k3,f1];simp
 have O:cs.size=a.flatten.length+I.flatten.length+(f.flatten++rest).length:=by
  have:=congrArg h3 J;simp only[hA,cc]at this;rw[this,hA]
 have G:=ei P (β.ak b) (off*sz) u m.flatten 0 cs w k1 (by rw[O,f3,B,C];simp only[i7];exact i8 _ _) (uH F);simp only[i7]at G;have aS:cs.toList.take (off*sz)++m.flatten++cs.toList.drop (off*sz+m.flatten.length)=a.flatten++m.flatten++(f.flatten++rest):=by
  rw[J,<-f3,B,<-C];exact Aa _ _ _ _
 rw[aS]at G;have an:(e6 r.cells len).toList=m.flatten:=by
  have:=wN r.cells len (by rw[R];exact l.pos);rw[L,<-this];rfl
 have ag:(dl V o).run P w=.ok (.value (.tuple #[])) (w.setRow (β.ak b) (a.flatten++m.flatten++(f.flatten++rest)).toArray):=by
  obtain⟨S,rfl⟩:∃S,len=S+1:=⟨len-1,by omega⟩
  simp only[dl,M,resolve,hc,X];generalize c.argTypes.getD 0 0=T at*;simp only[hj,hm,hg,invoke,builtin,hP,hC,hS];have key:(eq c.argTypes o.type #[V x]).run P w=.ok (.tuple #[]) (w.setRow (β.ak b) (a.flatten++m.flatten++(f.flatten++rest)).toArray):=by
   simp[eq,Y,g,da l.fT,rM U z2,an,G]
  rw[key];rfl
 have s:(d.take off++hB len (AV.p z)++d.drop (off+len)).length=d.length:=by simp;omega
 have aI:b8 β H β (H.set b (.arr k al sz (d.take off++hB len (.p z)++d.drop (off+len)))):=om j (.inr (.inl ⟨_,_,_,_,_,rfl,rfl,s.symm⟩));have ai:∀q,aa q->(w.setRow (β.ak b) (a.flatten++m.flatten++(f.flatten++rest)).toArray).heap[q]?=w.heap[q]?:=fun q ac=>ea w _ q _ (fun A=>K.1 (A▸ac));have hrefs:aP (aH H) (d.take off++hB len (AV.p z)++d.drop (off+len)):=by
  have N:=b9.1 (D.refs b _ j);refine jr (jr ?_ ?_) ?_
  ·rw[b9];exact fun v n=>N v (hH n)
  ·rw[b9];intro v n;rw[List.eq_of_mem_replicate n];simp[aB]
  ·rw[b9];exact fun v n=>N v (hO n)
 have Z:=lA j (o:=.arr k al sz (d.take off++hB len (.p z)++d.drop (off+len))) (fun _ h=>h);have ae:¬c8 k (d.take off++hB len (AV.p z)++d.drop (off+len)):=fun h=>t ⟨h.1,by have y:=h.2;rw[<-hQ]at y⊢;rw[s]at y;exact y⟩;have af:=pq D j t (o':=.arr k al sz (d.take off++hB len (AV.p z)++d.drop (off+len))) ae (fun _ h=>h) k1 (new:=(a.flatten++m.flatten++(f.flatten++rest)).toArray) K aI
  (.inr ⟨_,u,a++m++f,rest,eb w _ _ _ u _ k1,by
   refine Row.mono (fun _ x=>x) ai aI hrefs (ky.2 ⟨_,_,rfl,ky.2 ⟨_,_,rfl,f4,F⟩,f5⟩),by simp,by
   rw[<-k4,O];simp only[hK,hA,B,C],by rw[s];exact k5,fun A=>by rw[s];exact k6 A,k7,(fun ab=>(hk ab).elim),k8.2⟩) (aP.mono Z _ hrefs)
 refine⟨_,_,_,β,aa,ag,.inl rfl,?_,by simp[ar,aw,bg],by simp[aB]⟩;simpa only[newAt,hD,bd]using af
theorem Ae{c:Call}{x:db}{v:AV}{aj:List (Nat×Obj)}{H0:Heap}(l:o.op= .call c)(hc:c.callee= .builtin .unsafeSliceData)(n:c.args.toList=[x])
 (h:(ρ x=.p .aG/\v=.p .dD/\aj=[])\/∃b al ai off len k a,ρ x=.sl b al ai off len/\H0[b]?=some (.arr k al ai a)/\aj=[(b,.arr k al ai a)]/\((c8 k a/\v=.p .dD)\/(0<len/\off+len<=a.length/\v=.bX b al ai off []))):
 bh P o ρ base {v,aj}:=by
 obtain⟨s,q⟩:=xN l hc n;refine bh.same fun H w aa ah β m t y r=>?_;obtain⟨d,i⟩:=y x s;have g:∀f,(fb c.argTypes o.type #[m x]).run P w=.ok f w->(dl m o).run P w=.ok (.value f) w:=by
  intro f u;simp only[dl,l,resolve,hc,q];simp only[hj,hm,hg,invoke,builtin,hP,hC,hS];rw[u];rfl
 rcases h with⟨hx,rfl,rfl⟩|⟨b,al,ai,off,len,k,a,hx,C,rfl,h⟩
 ·rw[hx]at d;simp only[ar,aw]at d;exact⟨_,g _ (by rw[d];exact Lib.run_unsafeSliceData_nil w _ _ _ _),by simp[ar,aw],by simp[aB]⟩
 ·have j:H[b]?=some (.arr k al ai a):=by simpa using r
  rw[hx]at d i;simp only[ar,bI,bO]at d;obtain⟨_,v2,v3⟩:=d.2 k a j;rcases h with⟨e,rfl⟩|⟨D,hle,rfl⟩
  ·exact⟨_,g _ (by rw[v2 e];exact Lib.run_unsafeSliceData_nil w _ _ _ _),by simp[ar,aw],by simp[aB]⟩
  ·have e:¬c8 k a:=fun h=>by rw[h.2]at hle;simp at hle;omega
   rcases t.cF b _ j with hold|⟨cs,z,A,rest,k1,k2,k3,k4,k5,_⟩
   ·exact(e hold).elim
   refine⟨_,g _ (by rw[v3 e];exact Lib.run_unsafeSliceData_row w _ _ _ _ _ (by omega)),?_,by simpa only[aB]using i⟩;simp only[ar,bI,bO];refine⟨by simp[hp],β.ak b,off*ai,0,by simp,rfl,fun E B hl _=>⟨rfl,by simp⟩⟩
theorem Ui(w:dp)(a:Addr)(n:Nat):(w.freeze a n).os=w.os/\(w.freeze a n).output=w.output:=by
 unfold ht
 first|exact⟨rfl,rfl⟩|(split<;>exact⟨rfl,rfl⟩)
theorem Ub{w':dp}(j:bQ P w aa β H ah){b:Nat}{o:Obj}(i:H[b]?=some o)(hl:o.live)(g:¬aa (β.ak b)/\¬ah (β.ak b))(B:∀L,o≠ .loop L)(C:w'.heap.size=w.heap.size)
 (hs:∀k,k≠β.ak b->w'.heap[k]?=w.heap[k]?)(A:w'.os=w.os/\w'.output=w.output:=by exact⟨rfl,rfl⟩):bU P ah aa w β H aa w' β (H.set b .dead):=by
 have n:b<H.length:=(hw.1 i).1;have c:∀(x:Nat)(a:Obj),(H.set b Obj.dead)[x]?=some a->a≠.dead->H[x]?=some a:=by
  intro x a hx q
  by_cases l:b=x
  ·subst l;rw[hz n]at hx;cases hx;exact(q rfl).elim
  ·rwa [hG l]at hx
 have aI:b8 β H β (H.set b .dead):=by
  refine⟨?_,?_,?_,?_,?_⟩
  ·rintro x _ ⟨f,t,h⟩;exact⟨⟨f,t,c _ _ h (by simp)⟩,rfl⟩
  ·rintro x _ ⟨f,t,h⟩;exact⟨⟨f,t,c _ _ h (by simp)⟩,rfl⟩
  ·rintro x _ ⟨D,h,p⟩;exact⟨⟨D,c _ _ h (fun e=>by rw[e]at p;exact p.elim),p⟩,rfl⟩
  ·intro x al ai k v _ h;exact⟨k,v,c _ _ h (by simp),i4 _,Iff.rfl,fun _=>⟨rfl,rfl⟩⟩
  ·rintro x _ ⟨L,h⟩;exact⟨⟨L,c _ _ h (by simp)⟩,rfl⟩
 have m:bU P ah aa w β H aa w β (H.set b .dead):=
  bU.set j n (fun _ _=>⟨rfl,rfl⟩) (fun _ x=>x) (fun _ x=>.inl x) j.bR (i4 _) (fun _ _ _=>rfl) (fun h=>h.elim) aI trivial trivial (fun _ _ _ _=>trivial) (fun L s=>by rw[i]at s;cases s;exact(B L rfl).elim)
 have hx:=j.mb i hl;have y:=m.rel.II hx (fun x a r d u=>by
  have q:a≠.dead:=fun e=>by rw[e]at d;exact d
  have l:x=b:=j.inj x b a o (c _ _ r q) i d hl (fun hi=>g.1 (u▸hi)) u;subst l;rw[hz n]at r;cases r;exact d)
 have z:=y.shut (w':=w') (Prot0:=ah) (fun _ h=>.inl h) (R:=fun k=>k=β.ak b) (fun x e=>⟨.inr e,e▸g.1⟩) C (fun k hk=>hs k hk);refine⟨fun _ h=>h,fun _ h=>.inl h,⟨by omega,fun k hk=>hs k (fun e=>?_),A⟩,aI,z,m.eH,m.loop⟩;rcases hk with hk|hk
 ·exact g.2 (e▸hk)
 ·exact g.1 (e▸hk)
theorem AU:∀{d:List AV}{l:List Nat}{b:List (List dk)},bytesOf d=some l->Row P w aa β H 1 d b->b.flatten=l.map (fun c=>hr .u8 (c:Nat))/\l.length=d.length/\∀c∈l,c<256
 |[],l,b,h,a=>by
  simp[bytesOf]at h;subst h;rw[gR]at a;subst a;simp
 |v::d,l,b,h,a=>by
  unfold bytesOf at h
  split at h
  ·rename_i e;cases e
  ·rename_i c r e;simp at e;obtain⟨rfl,rfl⟩:=e
   split at h
   case isFalse=>simp at h
   rename_i hc
   split at h
   case h_2=>simp at h
   rename_i m i;simp at h;subst h;rw[pB]at a;obtain⟨j,cs,rfl,f,k,g⟩:=a;obtain⟨i1,i2,i3⟩:=AU i g;simp only[bf,aV]at f;subst f;refine⟨by simp[i1];omega,by simp[i2],?_⟩;intro x hx;rcases hE.1 hx with rfl|hx
   ·omega
   ·exact i3 x hx
  ·simp at h
theorem Re{S D e:dg}{x:db}{b al off len:Nat}{k:AK}{d:List AV}{l:List Nat}(r:o.op= .convert S D x)(B:P.underlying S=some (.slice e))(y:P.underlying D=some .string)(A:P.underlying e=some (.int .u8))(hx:ρ x= .sl b al 1 off len)
 (L:0<len)(j:off+len<=d.length)(hl:bytesOf ((d.drop off).take len)=some l):bh P o ρ base {v:=.p (.str l),aj:=[(b,.arr k al 1 d)]}:=by
 refine bh.same fun H w aa ah β M F I aj=>?_;have q:H[b]?=some (.arr k al 1 d):=by simpa using aj
 have f:=(I x (by simp[r,gy])).1;rw[hx]at f;simp only[ar,bI,bO]at f;have n:¬c8 k d:=fun h=>by rw[h.2]at j;simp at j;omega
 have f:=(f.2 _ _ q).2.2 n;rcases F.cF b _ q with hold|⟨cs,J,K,rest,k1,k2,k3,k4,k5,k6,k7,k8⟩
 ·exact(n hold).elim
 obtain⟨a,m,z,g1,g2,g3,g4,g5⟩:=jt k2 off len j;obtain⟨s,t,u⟩:=AU hl g2;have E:l.length=len:=by rw[t];simp;omega
 have C:cs.toList=a.flatten++(l.map (fun c=>hr .u8 (c:Nat))++(z.flatten++rest)):=by
  rw[k3,g1];simp only[hZ,hL,s]
 have G:=run_convert_bytes_arg (P:=P) w S e B A (β.ak b) (off*1) len (β.cap b-off) (l.map fun c:Nat=>(c:Int)) (by simpa using E) (fun i hi=>by
  have g:i<l.length:=by omega
  have:cs[off*1+i]?=some (.int .u8 (l[i]:Nat)):=by
   rw[<-cb,C,List.getElem?_append_right (by omega),g3,Nat.add_sub_cancel_left,h6 (by simpa using g),h2,h7 g];rfl
  rw[List.getD_eq_getElem?_getD,h2,h7 g];simp only[hv,k1];simpa using this) D y
 refine⟨.string (strOfNums (l.map fun c:Nat=>(c:Int))),?_,?_,by simp[aB]⟩
 ·simp only[dl,r,f];exact eh G
 ·simp only[ar,aw];refine⟨_,rfl,?_⟩;rw[strOfNums_data,hT,hT]
  conv=>lhs;rw[<-iz l]
  refine hW fun c hc=>?_;have:=u c hc;simp[j6];omega
theorem QC{c:Call}{x y:db}{b al n:Nat}{d:List AV}{l:List Nat}{T X:dg}(F:o.op= .call c)(hc:c.callee= .builtin .unsafeString)(N:c.args.toList=[x,y])(ab:c.argTypes=#[T,X])(hx:ρ x= .bX b al 1 0 [])(ad:ρ y= .p (.int .i64 n))
 (ag:0<n)(C:n<=d.length)(ai:n<=9223372036854775807)(M:P.underlying T=some (.pointer Gl.u8))(ac:P.cellsOf Gl.u8=1)(hl:bytesOf (d.take n)=some l):
 bh P o ρ base {v:=.p (.str l),aj:=[(b,.arr .bytes al 1 d)],aK:=[(b,.dead)]}:=by
 have s:c.args=#[x,y]:=by apply b5;simpa using N
 have D:x∈o.op.operands/\y∈o.op.operands:=by
  rw[F];simp[gy,ga,hc,s]
 intro H w aa ah β r G I aj _;have q:H[b]?=some (.arr .bytes al 1 d):=by simpa using aj
 have e:=(I x D.1).1;have f:=(I y D.2).1;rw[hx]at e;rw[ad]at f;simp only[ar,bI,bO,aw]at e f;have i:¬c8 .bytes d:=fun h=>by rw[h.2]at C;simp at C;omega
 obtain⟨_,ak,off,am,W,E,e⟩:=e;simp[fL]at E;subst E;obtain⟨rfl,rfl⟩:=e _ _ q i;rcases G.cF b _ q with hold|⟨cs,ae,af,rest,k1,k2,k3,k4,k5,k6,k7,k8⟩
 ·exact(i hold).elim
 obtain rfl:=k8.2 rfl;have U:¬aa (β.ak b)/\¬ah (β.ak b):=by
  unfold cB at k7;rw[if_neg (by simp)]at k7;exact k7
 obtain⟨a,m,z,g1,g2,g3,g4,g5⟩:=jt k2 0 n (by omega);have O:a=[]:=by have:=(fA g4).1;simpa using this
 subst O;rw[h5]at g2;obtain⟨J,K,L⟩:=AU hl g2;obtain⟨bs,u⟩:∃bs:List UInt8,bs=l.map j8:=⟨_,rfl⟩
 have g:bs.length=n:=by rw[u];simp[K];omega
 have t:bs.map (·.toNat)=l:=by
  rw[u,hT]
  conv=>rhs;rw[<-iz l]
  refine hW fun c hc=>?_;have:=L c hc;simp[j6];omega
 have A:cs.toList=bs.map (fun c=>hr .u8 c.toNat)++(z.flatten++rest):=by
  rw[k3,g1];simp only[h4,hZ,hL,J];congr 1;rw[<-t,hT];rfl
 have Z:=Lib.run_unsafeString_row (P:=P) w T X o.type Gl.u8 M ac (β.ak b) cs.size (by simp[World.shape?,k1]) bs (fun h=>by rw[h]at g;simp at g;omega) (by
  have:=congrArg h3 A;simp only[cc,hA,ik]at this;omega) (by omega) (fun j v B=>by
  have V:j<bs.length:=(hw.1 B).1;rw[jM];have:cs[j]?=some (.int .u8 v.toNat):=by
   rw[<-cb,A,h6 (by simpa using V),h2,B];rfl
  simp[hv,k1,this])
 have Q:(dl r o).run P w=.ok (.value (.string ⟨bs.toArray⟩)) (w.freeze ⟨β.ak b,0,none⟩ bs.length):=by
  simp only[dl,F,resolve,hc,s];simp only[hj,hm,hg,invoke,builtin,hP,hC,hS];have key:(ew c.argTypes o.type #[r x,r y]).run P w=.ok (.string ⟨bs.toArray⟩) (w.freeze ⟨β.ak b,0,none⟩ bs.length):=by
   rw[ab,W,f,<-g];simpa using Z
  rw[key];rfl
 have S:∀k,k≠β.ak b->(w.freeze ⟨β.ak b,0,none⟩ bs.length).heap[k]?=w.heap[k]?:=by
  intro k hk;unfold ht
  split
  ·rfl
  ·simp[Array.getElem?_modify,Ne.symm hk]
 have R:(w.freeze ⟨β.ak b,0,none⟩ bs.length).heap.size=w.heap.size:=by
  unfold ht
  split<;>simp
 have Y:=Ub G q i U (fun _ h=>by cases h) R S (Ui _ _ _);refine⟨_,_,_,β,aa,Q,.inl rfl,?_,?_,by simp[aB]⟩
 ·simpa only[newAt,hD,bd]using Y
 ·simp only[ar,aw];exact⟨_,rfl,by simpa using t.symm⟩
theorem Qz{c:Call}{x y:db}{T X:dg}(f:o.op= .call c)(hc:c.callee= .builtin .unsafeString)(i:c.args.toList=[x,y])(j:c.argTypes=#[T,X])(hx:ρ x= .p .dD)(k:ρ y= .p (.int .i64 0)):
 bh P o ρ base {v:=.p (.str [])}:=by
 have d:c.args=#[x,y]:=by apply b5;simpa using i
 have e:x∈o.op.operands/\y∈o.op.operands:=by
  rw[f];simp[gy,ga,hc,d]
 refine bh.same fun H w aa ah β h l g aj=>?_;have a:=(g x e.1).1;have b:=(g y e.2).1;rw[hx]at a;rw[k]at b;simp only[ar,aw]at a b;refine⟨.string .empty,?_,by simp only[ar,aw];exact⟨_,rfl,rfl⟩,by simp[aB]⟩;simp only[dl,f,resolve,hc,d];simp only[hj,hm,hg,invoke,builtin,hP,hC,hS];have key:(ew c.argTypes o.type #[h x,h y]).run P w=.ok (.string .empty) w:=by
  rw[j,a,b];exact Lib.run_unsafeString_none w _ _ _ _
 rw[key];rfl
end
section
variable{P:dq}
theorem Cg{c:Call}{ρ:db->AV}{x:AV}(a:c.args.toList.map ρ=[x]):∃y,c.args.toList=[y]/\ρ y=x:=by
 match b:c.args.toList with
 |[]=>rw[b]at a;simp at a
 |[y]=>rw[b]at a;simp at a;exact⟨y,rfl,a⟩
 |_::_::_=>rw[b]at a;simp at a
theorem HF{c:Call}(h:c.argTypes.size=2):∃T X,c.argTypes=#[T,X]:=by
 obtain⟨l,hl⟩:∃l,l=c.argTypes.toList:=⟨_,rfl⟩
 have d:l.length=2:=by rw[hl];simpa using h
 match l,d with
 |[a,b],_=>exact⟨a,b,by apply b5;simp[<-hl]⟩
theorem nY(ag:ec->Bool):kZ P ag:=by
 intro o ρ H K _ h;unfold fh at h;have plain:∀{e:aU},K e->bh P o ρ H.length e->e.aj=[]->e.aK=[]->∃e,K e/\bh P o ρ H.length e/\(∀p∈e.aj,H[p.1]?=some p.2)/\(∀p∈e.aK,p.1<H.length/\p.2≠.hole):=by
  intro e A B C G;exact⟨e,A,B,by simp[C],by simp[G]⟩
 cases q:o.op<;>simp only[q]at h
 case move x=>exact plain h (Ox (.inl q)) rfl rfl
 case assign x=>exact plain h (Ox (.inr q)) rfl rfl
 case pick c a b=>
  split at h
  ·rename_i t hc;exact plain h (azM q hc) rfl rfl
  ·exact h.elim
 case alloc T=>
  split at h
  ·rename_i z M;exact plain h.2.2.2 (U0 q M h.2.2.1) rfl rfl
  ·exact h.elim
 case box T x=>exact plain h.2.2.2 (azF q h.2.1 h.2.2.1) rfl rfl
 case build T parts=>
  split at h
  ·rename_i u z hk M
   split at h
   ·rename_i l hl;obtain⟨A,B,C⟩:=h;exact plain C (UZ q hk M hl A B) rfl rfl
   ·exact h.elim
  ·exact h.elim
 case buildSlice T n parts=>
  split at h
  ·rename_i sz z U M;obtain⟨A,B,C,G⟩:=h;exact plain G (Q1 q U M A B C) rfl rfl
  ·exact h.elim
 case load T a=>exact azK q h
 case store T a x=>exact VB q h
 case binOp b T x y aF=>
  obtain⟨v,A,B⟩:=azE (base:=H.length) q h;exact⟨_,A,B,mO,by simp⟩
 case unOp u T x=>
  split at h
  ·rename_i b hx;exact plain h (Di q hx (.inl ⟨rfl,_,rfl,rfl⟩)) rfl rfl
  ·rename_i k n hx;exact plain h (Di q hx (.inr (.inl ⟨rfl,_,_,rfl,rfl⟩))) rfl rfl
  ·rename_i k n hx;exact plain h (Di q hx (.inr (.inr ⟨rfl,_,_,rfl,rfl⟩))) rfl rfl
  ·exact h.elim
 case convert S D x=>
  split at h
  ·rename_i d k k0 n aa Z hx;exact plain h (SC q ⟨_,aa⟩ Z hx) rfl rfl
  ·rename_i d s aa Z hx;exact plain h (SB q ⟨_,aa⟩ Z hx) rfl rfl
  ·rename_i e b al ai off len aa Z hx
   split at h
   case h_2=>exact h.elim
   rename_i k ah ae R w;obtain⟨rfl,rfl,rfl,U,ak,hle,h⟩:=h
   split at h
   case h_2=>exact h.elim
   rename_i l hl;exact⟨_,h,Re q aa Z U hx ak hle hl,by simpa using w,by simp⟩
  ·exact h.elim
 case extract t i=>
  split at h
  ·rename_i vs ap
   split at h
   ·rename_i v aq;exact plain h (Hv q (.inr ⟨_,ap,rfl⟩) (by simp[aq])) rfl rfl
   ·exact h.elim
  ·rename_i vs ap
   split at h
   ·rename_i v aq;exact plain h (Hv q (.inl ap) aq) rfl rfl
   ·exact h.elim
  ·exact h.elim
 case fieldAddr T a f=>
  obtain⟨e,A,B,C,G⟩:=Rd (base:=H.length) q h;exact plain A B C G
 case indexAddr T x i=>
  obtain⟨e,A,B,C,G⟩:=Rc (base:=H.length) q h;exact⟨e,A,B,C,by simp[G]⟩
 case field T x f=>
  split at h
  ·rename_i u fs t hk az hx;obtain⟨A,h⟩:=h
   split at h
   ·rename_i g F ao am;exact plain h.2 (UX q hk az hx A ao am h.1) rfl rfl
   ·exact h.elim
  ·exact h.elim
 case index T x i=>
  split at h
  ·rename_i s k n hx hi;obtain⟨A,B,C,G⟩:=h;exact plain G (Sf q hx hi A B C) rfl rfl
  ·rename_i u R k n hx hi
   split at h
   ·rename_i u' m F g I am ao;obtain⟨rfl,ak,ab,hk,h⟩:=h;exact plain h (Sg q I hx hi ak ab am ao hk) rfl rfl
   ·exact h.elim
  ·exact h.elim
 case makeFunc fn fi ca=>
  cases fn<;>simp only at h
  case func f=>
   obtain⟨m1,m2,m3⟩:=Se (ρ:=ρ) (base:=H.length) q
   split at h
   ·split at h
    ·rename_i a b aj aK j an;obtain⟨q1,ac,aE⟩:=m3 H a b aj aK j an;exact⟨_,h,q1,ac,aE⟩
    ·exact h.elim
   ·split at h
    ·rename_i a b j an;exact plain h (m1 a b j an) rfl rfl
    ·exact plain h m2 rfl rfl
 case makeSlice T l c=>
  split at h
  ·rename_i sz z aG c' U M hl hc;obtain⟨A,B,rfl,G,N⟩:=h;exact plain N (Rb q U M hl hc A B G) rfl rfl
  ·exact h.elim
 case slice T x lo hi aA=>
  cases aA with
  |none=>
   obtain⟨e,A,B,C,G⟩:=UU (base:=H.length) q h;exact⟨e,A,B,C,by simp[G]⟩
  |some m=>
   obtain⟨e,A,B,C,G⟩:=TK (base:=H.length) q h;exact⟨e,A,B,C,by simp[G]⟩
 case makeMap T r=>
  cases r<;>simp only at h;exact plain h (SA q) rfl rfl
 case lookup T x i ok=>
  split at h
  case h_2=>exact h.elim
  rename_i ad E key I hi
  split at h
  case h_2=>exact h.elim
  rename_i z M;obtain⟨hk,h⟩:=h
  split at h
  ·rename_i hx;exact plain h (ub (r:=none) (es:=[]) q I M hi hk rfl (.inl ⟨hx,rfl⟩)) rfl rfl
  ·rename_i R hx
   split at h
   ·rename_i v hl;exact plain h (ub (r:=some v) q I M hi hk hl (.inr (.inl hx))) rfl rfl
   ·rename_i hl;exact plain h (ub (r:=none) q I M hi hk hl (.inr (.inl hx))) rfl rfl
   ·exact h.elim
  ·rename_i b hx
   split at h
   case h_3=>exact h.elim
   ·rename_i fz R w
    split at h
    ·rename_i v hl;exact⟨_,h,ub (r:=some v) q I M hi hk hl (.inr (.inr ⟨b,fz,hx,by simp⟩)),by simpa using w,by simp⟩
    ·rename_i hl;exact⟨_,h,ub (r:=none) q I M hi hk hl (.inr (.inr ⟨b,fz,hx,by simp⟩)),by simpa using w,by simp⟩
    ·exact h.elim
   ·rename_i ks vs w;obtain⟨O,h⟩:=h
    split at h
    ·rename_i v hl;exact⟨_,h,EH (r:=some v) q I M hi hk O hl hx,by simpa using w,by simp⟩
    ·rename_i hl;exact⟨_,h,EH (r:=none) q I M hi hk O hl hx,by simpa using w,by simp⟩
    ·exact h.elim
  ·exact h.elim
 case mapUpdate T m k x=>
  split at h
  case h_3=>exact h.elim
  ·rename_i ad E b key v I V hk hx;obtain⟨hf,h⟩:=h
   split at h
   case h_3=>exact h.elim
   ·rename_i R w
    split at h
    case h_2=>exact h.elim
    rename_i r hl;exact⟨_,h,Gd (.inl q) I V hk hx hf hl,by simpa using w,by simpa using(hw.1 w).1⟩
   ·rename_i ks vs w;obtain⟨ar,au,j,O,hl,h⟩:=vN h;rw[<-hx]at h;exact⟨_,h,vM (.inl q) I V hk hf j O hl,by simpa using w,by simpa using(hw.1 w).1⟩
  ·rename_i ad E b key I V hk _;obtain⟨hf,h⟩:=h
   split at h
   case h_2=>exact h.elim
   rename_i aD w;obtain⟨ar,au,j,O,hl,h⟩:=vN h;exact⟨_,h,vM (.inl q) I V hk hf j O hl,by simpa using w,by simpa using(hw.1 w).1⟩
 case insert T m k x=>
  split at h
  case h_3=>exact h.elim
  ·rename_i ad E b key v I V hk hx;obtain⟨hf,h⟩:=h
   split at h
   case h_3=>exact h.elim
   ·rename_i R w
    split at h
    case h_2=>exact h.elim
    rename_i r hl;exact⟨_,h,Gd (.inr q) I V hk hx hf hl,by simpa using w,by simpa using(hw.1 w).1⟩
   ·rename_i ks vs w;obtain⟨ar,au,j,O,hl,h⟩:=vN h;rw[<-hx]at h;exact⟨_,h,vM (.inr q) I V hk hf j O hl,by simpa using w,by simpa using(hw.1 w).1⟩
  ·rename_i ad E b key I V hk _;obtain⟨hf,h⟩:=h
   split at h
   case h_2=>exact h.elim
   rename_i aD w;obtain⟨ar,au,j,O,hl,h⟩:=vN h;exact⟨_,h,vM (.inr q) I V hk hf j O hl,by simpa using w,by simpa using(hw.1 w).1⟩
 case range T x=>
  split at h
  ·rename_i s hx;exact plain h.2 (UW q hx h.1) rfl rfl
  ·exact h.elim
 case next it isStr=>
  cases isStr<;>simp only at h
  split at h
  case h_2=>exact h.elim
  rename_i b hx
  split at h
  case h_2=>exact h.elim
  rename_i s pos w;obtain⟨aB,aC⟩:=azL (P:=P) (base:=H.length) (s:=s) (pos:=pos) q hx
  split at h
  ·rename_i W;exact⟨_,h,aB W,by simpa using w,by simpa using(hw.1 w).1⟩
  ·rename_i W;exact⟨_,h,aC W,by simpa using w,by simp⟩
 case nilCheck x=>
  split at h
  ·rename_i b p hx;exact plain h (Ac q (.inl ⟨b,p,hx⟩)) rfl rfl
  ·rename_i b v e i p hx;exact plain h (Ac q (.inr (.inl ⟨b,v,e,i,p,hx⟩))) rfl rfl
  ·rename_i t hx;exact plain h (Ac q (.inr (.inr ⟨t,hx⟩))) rfl rfl
  ·exact h.elim
 case call c=>
  split at h
  case h_2=>exact h.elim
  rename_i b hc
  split at h
  ·rename_i x j
   split at h
   case h_2=>exact h.elim
   rename_i n aj hl;obtain⟨A,B,C⟩:=h;obtain⟨y,L,rfl⟩:∃y,c.args.toList=[y]/\ρ y=x:=by
    match J:c.args.toList with
    |[]=>rw[J]at j;simp at j
    |[y]=>rw[J]at j;simp at j;exact⟨y,rfl,j⟩
    |_::_::_=>rw[J]at j;simp at j
   obtain⟨q1,ac⟩:=azJ (P:=P) (base:=H.length) q hc L hl A B;exact⟨_,C,q1,ac,by simp⟩
  ·rename_i s x j;obtain⟨y,z,L,rfl,rfl⟩:∃y z,c.args.toList=[y,z]/\ρ y=s/\ρ z=x:=by
    match J:c.args.toList with
    |[]=>rw[J]at j;simp at j
    |[y]=>rw[J]at j;simp at j
    |[y,z]=>rw[J]at j;simp at j;exact⟨y,z,rfl,j.1,j.2⟩
    |_::_::_::_=>rw[J]at j;simp at j
   exact TM q hc L h.1 h.2
  ·rename_i k a r j
   split at h
   ·rename_i n ab;exact plain h (HQ (isMax:=false) q hc j ab) rfl rfl
   ·exact h.elim
  ·rename_i k a r j
   split at h
   ·rename_i n ab;exact plain h (HQ (isMax:=true) q hc j ab) rfl rfl
   ·exact h.elim
  ·rename_i d x j;obtain⟨y,z,L,ax,rfl⟩:∃y z,c.args.toList=[y,z]/\ρ y=d/\ρ z=x:=by
    match J:c.args.toList with
    |[]=>rw[J]at j;simp at j
    |[y]=>rw[J]at j;simp at j
    |[y,z]=>rw[J]at j;simp at j;exact⟨y,z,rfl,j.1,j.2⟩
    |_::_::_::_=>rw[J]at j;simp at j
   split at h
   case h_2=>exact h.elim
   rename_i sz b al ai off len aH U hx;obtain⟨rfl,A,B,h⟩:=h
   split at h
   case h_2=>exact h.elim
   rename_i k ah ae R w;obtain⟨rfl,rfl,C,G,N,Y⟩:=h;refine⟨_,Y,azH q hc L B U ax hx A C G N,?_,by simpa using(hw.1 w).1⟩;intro p W;rcases hE.1 W with rfl|W
   ·exact w
   ·exact mO p W
  ·rename_i x j;obtain⟨y,L,rfl⟩:=Cg j
   split at h
   case h_2=>exact h.elim
   rename_i n aj hl;obtain⟨A,B,C⟩:=h;obtain⟨q1,ac⟩:=azG (P:=P) (base:=H.length) q hc L hl A B;exact⟨_,C,q1,ac,by simp⟩
  ·rename_i x j;obtain⟨y,L,Q⟩:=Cg j
   split at h
   ·rw[<-Q]at h;exact plain h.2.2 (Q0 q hc L Q h.1 h.2.1) rfl rfl
   ·split at h
    ·rename_i b al ai off len sz z k ah ae R U M w;obtain⟨rfl,rfl,rfl,A,B,C,G,N,Y,aw⟩:=h;exact⟨_,aw,UY q hc L N U M A Q B C G Y,by simpa using w,by simpa using(hw.1 w).1⟩
    ·exact h.elim
   ·exact h.elim
  ·rename_i x j;obtain⟨y,L,Q⟩:=Cg j
   split at h
   ·exact plain h (Ae (H0:=H) q hc L (.inl ⟨Q,rfl,rfl⟩)) rfl rfl
   ·split at h
    ·rename_i b al ai off len k ah ae R w;obtain⟨rfl,rfl,h⟩:=h;rcases h with⟨A,B,C⟩|⟨A,B,C⟩
     ·exact⟨_,C,Ae q hc L (.inr ⟨_,_,_,_,_,_,_,Q,w,rfl,.inl ⟨⟨A,B⟩,rfl⟩⟩),by simpa using w,by simp⟩
     ·exact⟨_,C,Ae q hc L (.inr ⟨_,_,_,_,_,_,_,Q,w,rfl,.inr ⟨A,B,rfl⟩⟩),by simpa using w,by simp⟩
    ·exact h.elim
   ·exact h.elim
  ·rename_i x n j;obtain⟨y,z,L,Q,av⟩:∃y z,c.args.toList=[y,z]/\ρ y=x/\ρ z=.p (.int .i64 n):=by
    match J:c.args.toList with
    |[]=>rw[J]at j;simp at j
    |[y]=>rw[J]at j;simp at j
    |[y,z]=>rw[J]at j;simp at j;exact⟨y,z,rfl,j.1,j.2⟩
    |_::_::_::_=>rw[J]at j;simp at j
   split at h
   ·obtain⟨rfl,A,B⟩:=h;obtain⟨T,X,af⟩:=HF A;exact plain B (Qz q hc L af Q av) rfl rfl
   ·split at h
    ·rename_i b al ai i ah ae R w;obtain⟨rfl,rfl,rfl,rfl,A,B,C,G,N,Y,h⟩:=h;obtain⟨T,X,af⟩:=HF G
     split at h
     ·rename_i l hl;obtain⟨m,rfl⟩:=Int.eq_ofNat_of_zero_le (by omega:0<=n);simp only[Int.toNat_natCast]at B hl;have I:P.underlying T=some (.pointer Gl.u8):=by
       rw[af]at N;simp only[ptrTo]at N
       split at N
       ·rename_i e ay;simp at N;rw[<-N];exact ay
       ·simp at N
      exact⟨_,h,QC q hc L af Q av (by omega) B (by omega) I Y hl,by simpa using w,by simpa using(hw.1 w).1⟩
     ·exact h.elim
    ·exact h.elim
   ·exact h.elim
  ·exact h.elim
end
section
variable{P:dq}{ag:ec->Bool}{n:Nat}
theorem Iz{o o':Obj}(h:lK o=some o'):lK o'=some o':=by
 unfold lK at h
 split at h
 ·simp at h;subst h;rfl
 ·rename_i k al ai a
  split at h
  ·simp at h
  ·split at h
   ·rename_i l hl;simp at h;subst h;simp[lK,AK.gr,hl]
   ·simp at h
 ·simp at h;subst h;rfl
 ·simp at h
theorem XU{w:dp}{aa ah:Nat->Prop}{β:Bd}{H:Heap}(d:bQ P w aa β H ah){b:Nat}{o o':Obj}(c:H[b]?=some o)(hf:lK o=some o'):
 ∃aD,bU P ah aa w β H aD w β (H.set b o')/\aD (β.ak b):=by
 unfold lK at hf
 split at hf
 ·rename_i fz t;simp at hf;subst hf;obtain⟨cs,T,g,i,j,m⟩:=d.cF b _ c;have aI:b8 β H β (H.set b (.box true (.p t))):=rr c (.inl ⟨_,_,_,rfl,rfl⟩);exact rC d c trivial (o':=.box true (.p t)) trivial (fun _ h=>h) (fun _ h=>by cases h) aI j.sB
   (fun aD hi l=>⟨cs,T,g,bf.mono hi (fun _ _=>rfl) aI _ _ (by simp[aB]) i,l,fun _=>trivial,m.2⟩) (by simp[Obj.refs,aB])
 ·rename_i k al ai f
  split at hf
  ·simp at hf
  ·rename_i q
   split at hf
   case h_2=>simp at hf
   rename_i C z;simp at hf;subst hf;have r:=lx z;rcases d.cF b _ c with hold|⟨cs,T,u,rest,g,i,j,m,x,A,y,B⟩
   ·exact(q hold).elim
   have s:¬c8 .frozen f:=fun h=>by cases h.1
   have aI:b8 β H β (H.set b (.arr .frozen al ai f)):=rr c (.inr (.inl ⟨_,_,_,_,_,rfl,rfl,q,s⟩));exact rC d c q (o':=.arr .frozen al ai f) s (fun _ h=>h) (fun _ h=>by cases h) aI y.sB
    (fun aD hi l=>.inr ⟨cs,T,u,rest,g,bH.mono hi (fun _ _=>rfl) aI _ _ _ (d.refs b _ c) i,j,m,x,(fun h=>by cases h),l,fun _ e n=>(by rw[r]at n;simp at n;obtain⟨a,_,rfl⟩:=n;trivial),fun h=>by cases h⟩)
    (by rw[r];exact iM _ _)
 ·rename_i fz f;simp at hf;subst hf;obtain⟨v,clock,g,i,j⟩:=d.cF b _ c;have aI:b8 β H β (H.set b (.map true f)):=rr c (.inr (.inr ⟨_,_,_,rfl,rfl⟩));exact rC d c trivial (o':=.map true f) trivial (fun _ h=>h) (fun _ h=>by cases h) aI j.sB
   (fun aD hi l=>⟨v,clock,g,cC.mono hi (fun _ _=>rfl) _ _ i,l⟩) trivial
 ·simp at hf
theorem GU{w:dp}{ah:Nat->Prop}{β:Bd}{H0:Heap}:∀(bs:List Nat){aj aK:List (Nat×Obj)}{H:Heap}{aa:Nat->Prop},kD H0 bs=some (aj,aK)->bQ P w aa β H ah->
 (∀p∈aj,∃c,H[p.1]?=some c/\lK c=lK p.2)->∃aD,bU P ah aa w β H aD w β (bd H aK)/\∀b∈bs,aD (β.ak b)
 |[],aj,aK,H,aa,h,a,_=>by
  simp[kD]at h;obtain⟨rfl,rfl⟩:=h;exact⟨aa,bU.refl a,by simp⟩
 |b::bs,aj,aK,H,aa,h,a,hc=>by
  simp only[kD]at h
  split at h
  case h_2=>simp at h
  rename_i o q s r g
  split at h
  case h_2=>simp at h
  rename_i o' hf;simp at h;obtain⟨rfl,rfl⟩:=h;obtain⟨c,g1,g2⟩:=hc (b,o) (by simp);simp only at g1 g2;rw[hf]at g2;obtain⟨n,e,l⟩:=XU a g1 g2;have i:b<H.length:=(hw.1 g1).1;obtain⟨f,q1,m⟩:=GU bs g e.rel (by
   intro p j;obtain⟨k,k1,k2⟩:=hc p (by simp[j])
   by_cases d:b=p.1
   ·rw[<-d]at k1⊢;rw[g1]at k1;cases k1;refine⟨o',by rw[hz i],?_⟩;rw[<-k2,g2,Iz g2]
   ·exact⟨k,by rw[hG d];exact k1,k2⟩)
  refine⟨f,by simpa only[bd]using e.trans q1,?_⟩;intro x hx;rcases hE.1 hx with rfl|hx
  ·exact q1.bR _ l
  ·exact m x hx
theorem IA{H0:Heap}:∀(bs:List Nat){aj aK:List (Nat×Obj)},kD H0 bs=some (aj,aK)->(∀p∈aj,H0[p.1]?=some p.2)/\(∀p∈aK,p.1<H0.length/\p.2≠.hole)/\aj.map (·.1)=bs
 |[],aj,aK,h=>by
  simp[kD]at h;obtain⟨rfl,rfl⟩:=h;simp
 |b::bs,aj,aK,h=>by
  simp only[kD]at h
  split at h
  case h_2=>simp at h
  rename_i o f g d e
  split at h
  case h_2=>simp at h
  rename_i o' hf;simp at h;obtain⟨rfl,rfl⟩:=h;obtain⟨i1,i2,i3⟩:=IA bs e;refine⟨?_,?_,by simp[i3]⟩
  ·intro p a;rcases hE.1 a with rfl|a
   ·exact d
   ·exact i1 p a
  ·intro p a;rcases hE.1 a with rfl|a
   ·refine⟨(hw.1 d).1,fun c=>?_⟩;simp only at c;have:=Iz hf;rw[c]at this;simp[lK]at this
   ·exact i2 p a
theorem Vq{w:dp}{aa aD ah:Nat->Prop}{β:Bd}{H0 H:Heap}{a:AV}{pv:PV}{bs:List Nat}{v:dk}(d:lR H0 a=some (pv,bs))(aj:∀b∈bs,H[b]?=H0[b]?)(n:bQ P w aa β H ah)(e:ar P w aa β H a v)
 (hi:∀k,aa k->aD k)(r:∀b∈bs,aD (β.ak b)):aw P w aD pv v:=by
 cases a with
 |p t=>
  simp[lR]at d;obtain⟨rfl,rfl⟩:=d;simp only[ar]at e;exact aw.mono hi (fun _ _=>rfl) _ _ e
 |sl b al ai off len=>
  simp only[lR]at d
  split at d
  case h_2=>simp at d
  rename_i k R M g l
  split at d
  case isFalse=>simp at d
  rename_i F;obtain⟨rfl,rfl,hl⟩:=F
  split at d
  ·simp at d
  ·rename_i y
   split at d
   case h_2=>simp at d
   rename_i z I;simp at d;obtain⟨rfl,rfl⟩:=d;have x:=lx I;have f:H[b]?=some (.arr k al ai g):=by rw[aj b (by simp)];exact l
   have j:=r b (by simp);simp only[ar,bI,bO]at e;obtain⟨v1,v2,v3⟩:=e.2 k g f;rcases n.cF b _ f with hold|⟨cs,T,A,rest,i,h,q,D,N,E,O,Q⟩
   ·exact(y hold).elim
   rw[v3 y];have J:Row P w aD β H ai g A:=bH.mono hi (fun _ _=>rfl) (b8.refl _ _) _ _ _ (n.refs b _ f) h;obtain⟨a,m,c,e1,e2,e3,e4,e5⟩:=jt J off len v1;rw[x,z7,ly]at e2;have u:((z.drop off).take len).length=len:=by
    have:g.length=z.length:=by rw[x];simp
    simp;omega
   simp only[aw];refine⟨β.ak b,off*ai,β.cap b-off,ai,m,e2,fun _=>j,?_,?_,?_,none,.inl rfl,?_⟩
   ·rw[<-e3];exact lg i (post:=c.flatten++rest) (by rw[q,e1];simp)
   ·intro hf;simp at hf;rw[u,E hf.1];omega
   ·rw[u];omega
   ·rw[u]
 |ptr b path=>
  simp only[lR]at d
  split at d
  case h_2=>simp at d
  rename_i fz t l
  split at d
  case h_2=>simp at d
  rename_i s hs;simp at d;obtain⟨rfl,rfl⟩:=d;have f:H[b]?=some (.box fz (.p t)):=by rw[aj b (by simp)];exact l
  have j:=r b (by simp);simp only[ar,bI,bO]at e;obtain⟨_,L,K,o,rfl,G,e⟩:=e;obtain⟨rfl,rfl⟩:=e (.inl ⟨fz,_,f⟩);obtain⟨cs,T,i,h,q,D⟩:=n.cF b _ f;have C:aV P w aD t cs.toList:=by simp only[bf]at h;exact aV.mono hi (fun _ _=>rfl) _ _ h
  obtain⟨pre,xs,post,e1,e2,e3⟩:=xy C hs G;simp only[aw];refine⟨β.ak b,K,xs,e3,j,?_,rfl⟩;rw[<-e2];exact lg i e1
 |map b=>
  simp only[lR]at d
  split at d
  case h_2=>simp at d
  rename_i fz g l;simp at d;obtain⟨rfl,rfl⟩:=d;have f:H[b]?=some (.map fz g):=by rw[aj b (by simp)];exact l
  have j:=r b (by simp);simp only[ar,bI,bO]at e;have e:=e.2.1 ⟨_,f,trivial⟩;obtain⟨B,clock,i,h,q⟩:=n.cF b _ f;simp only[aw];exact⟨β.ak b,B,clock,j,i,cC.mono hi (fun _ _=>rfl) _ _ h,e⟩
 |bX=>simp[lR]at d
 |func=>simp[lR]at d
 |st=>simp[lR]at d
 |aC=>simp[lR]at d
theorem Ig{w:dp}{aa aD ah:Nat->Prop}{β:Bd}{H0 H:Heap}:∀{l:List AV}{vs:List PV}{bs:List Nat}{d:List dk},nE H0 l=some (vs,bs)->(∀b∈bs,H[b]?=H0[b]?)->bQ P w aa β H ah->bt P w aa β H l d->
 (∀k,aa k->aD k)->(∀b∈bs,aD (β.ak b))->bg P w aD vs d
 |[],vs,bs,d,h,_,_,c,_,_=>by
  simp[nE]at h;obtain⟨rfl,rfl⟩:=h;simp only[bt]at c;simpa[bg]using c
 |a::l,vs,bs,d,h,aj,f,c,hi,e=>by
  simp only[nE]at h
  split at h
  case h_2=>simp at h
  rename_i v m o n g i;simp at h;obtain⟨rfl,rfl⟩:=h;simp only[bt]at c;obtain⟨y,j,rfl,k1,k2⟩:=c;simp only[bg];exact⟨y,j,rfl,Vq g (fun b hx=>aj b (by simp[hx])) f k1 hi (fun b hx=>e b (by simp[hx])),Ig i (fun b hx=>aj b (by simp[hx])) f k2 hi (fun b hx=>e b (by simp[hx]))⟩
def Act(P:dq)(n:Nat)(o:Oper)(s:St)(e:aU):Prop:=
 ∀(fr:en)(k:List Item)(cs:List en)(a:Array Oper)(i:Nat)(r:List Nat)(b:List Deferred)(ah aa:Nat->Prop)(β:Bd)(s':St)(t:Array dk)(w:dp),
  a[i]?=some o->hd o (yielded a t)=true->iG n o=true->cL P n ah aa β s' t w->(∀x∈o.op.operands,ev s'.env x=ev s.env x)->
  (∀p∈e.aj,s'.heap[p.1]?=some p.2)->(∀j,j<e.aS.length->s'.heap[s.heap.length+j]?=some .hole)->
  ∃aD aJ c w',Steps P (lone (bA fr t b (.inRegion a (i::r)::k)) cs w) (lone (bA fr c b (.inRegion a r::k)) cs w')/\
   cL P n ah aD aJ ⟨put o.dst e.v s'.env,bd s'.heap (e.aK++newAt s.heap.length e.aS)⟩ c w'/\∀N,dI N ah aa w β s'.heap ah aD w' aJ (bd s'.heap (e.aK++newAt s.heap.length e.aS))
theorem RI{o:Oper}{K:aU->Prop}{s:St}(h:iW P ag o s K)(c:Call):o.op≠.defer c:=by
 intro hc;unfold iW at h;rw[hc]at h;simp[fh,hc]at h
theorem L8{e e':Env}{l:List db}(h:∀x∈l,ev e' x=ev e x):l.map (ev e')=l.map (ev e):=hW h
theorem Jy{o:Oper}{f:db}{H:Array db}{ak:Array dg}{g:ec}{fi ca:List AV}{K:aU->Prop}{s:St}
 (W:o.op=.call {callee:=.value f,args:=H,argTypes:=ak})
 (hf:(ev s.env f=.func g fi ca)\/(∃a b,ev s.env f=.p (.func g a b)/\fi=a.map .p/\ca=b.map .p))
 (h:gL P g (fi++H.toList.map (ev s.env)++ca) s.heap K):
 ∃e,K e/\(∀p∈e.aj,s.heap[p.1]?=some p.2)/\(∀p∈e.aK,p.1<s.heap.length/\p.2≠.hole)/\Act P n o s e:=by
 have Q:∀c,o.op≠.defer c:=fun c hc=>by rw[W]at hc;cases hc
 have ac:f∈o.op.operands/\∀x∈H.toList,x∈o.op.operands:=by
  rw[W];simp[gy,ga];exact fun x hx=>.inr hx
 have M:∀{ah aa:Nat->Prop}{β:Bd}{s':St}{t:Array dk}{w:dp},cL P n ah aa β s' t w->(∀x∈o.op.operands,ev s'.env x=ev s.env x)->
  ∃m:List dk,bt P w aa β s'.heap (fi++H.toList.map (ev s.env)++ca) m/\aP (aH s'.heap) (fi++H.toList.map (ev s.env)++ca)/\(dl (fj t) o).run P w=(callFunc g m.toArray).run P w:=by
  intro ah aa β s' t w d A;have I:=ny d f;rw[A f ac.1]at I;obtain⟨G,F,av,au,ap,aC,aA⟩:∃G F:List dk,fj t f=.func (.func g) G.toArray F.toArray/\bt P w aa β s'.heap fi G/\bt P w aa β s'.heap ca F/\aP (aH s'.heap) fi/\aP (aH s'.heap) ca:=by
   rcases hf with hf|⟨a,b,hf,rfl,rfl⟩
   ·rw[hf]at I;simp only[ar,aB]at I;obtain⟨⟨G,F,y,z,D⟩,S,an⟩:=I;exact⟨G,F,D,y,z,S,an⟩
   ·rw[hf]at I;simp only[ar,aw]at I;obtain⟨⟨G,F,y,z,D⟩,_⟩:=I;exact⟨G,F,D,jh.2 y,jh.2 z,iM _ _,iM _ _⟩
  obtain⟨Y,Z⟩:=uf d H.toList;rw[L8 (fun x hx=>A x (ac.2 x hx))]at Y Z;refine⟨G++H.toList.map (fj t)++F,n7 (n7 au Y) ap,jr (jr aC Z) aA,?_⟩;simp only[dl,W,resolve,av,Deferred.ofValue,hj,hm,hg,invoke];congr 2;simp
 have pure:∀(fr:en)(k:List Item)(cs:List en)(l:Array Oper)(i:Nat)(r:List Nat)(u:List Deferred)(ah aa E:Nat->Prop)(β:Bd)(s':St)(t:Array dk)(w:dp)(H1:Heap)(m:List dk)(vs:List PV)(v:PV),
  l[i]?=some o->hd o (yielded l t)=true->iG n o=true->cL P n ah aa β s' t w->(dl (fj t) o).run P w=(callFunc g m.toArray).run P w->
  bU P ah aa w β s'.heap E w β H1->bg P w E vs m->az P g vs v->
  ∃aD aJ ai w',Steps P (lone (bA fr t u (.inRegion l (i::r)::k)) cs w) (lone (bA fr ai u (.inRegion l r::k)) cs w')/\
   cL P n ah aD aJ ⟨put o.dst (.p v) s'.env,H1⟩ ai w'/\∀N,dI N ah aa w β s'.heap ah aD w' aJ H1:=by
  intro fr k cs l i r u ah aa E β s' t w H1 m vs v q C B d O j af L;rcases L with⟨aq,L⟩|L
  ·rw[aq]at O;obtain⟨e,w',al,⟨R,aD,U,g1,g2,g3,g4,g5,am,g6⟩,aI,ax,V⟩:=L w E _ j.rel.bR j.rel.gU af (bA fr t u (.inRegion l (i::r)::k)::cs);subst U;have ae:=j.trans (j.rel.later g1 g2 g3 g4 g5 am);refine⟨aD,β,_,w',?_,d.put B ae (by simpa[ar]using g6) (by simp[aB]),fun _=>ae.eO⟩;rw[<-mQ q];exact(Steps.one (tW q C Q O)).trans (Steps.trans aI (.one (ee V)))
  ·obtain⟨R,y,z⟩:=L w E _ af;rw[y]at O;exact⟨E,β,_,w,.one (rA q C Q O (.inl rfl)),d.put B j (by simpa[ar]using z) (by simp[aB]),fun _=>j.eO⟩
 rcases h with⟨vs,v,y,z,D⟩|⟨vs,bs,aj,aK,v,y,z,D,S⟩|⟨e,X,ad,T⟩|⟨aj,v,ao,ay,T⟩
 ·refine⟨_,D,by simp,by simp,?_⟩;intro fr k cs l i r u ah aa β s' t w q C B d A _ _;obtain⟨m,c1,c2,c3⟩:=M d A;rw[y]at c1;simp only[newAt,hD,bd];exact pure fr k cs l i r u ah aa aa β s' t w s'.heap m vs v q C B d c3 (bU.refl d.heap) (jh.1 c1) z
 ·obtain⟨i1,i2,i3⟩:=IA bs z;refine⟨_,S,i1,i2,?_⟩;intro fr k cs l i r u ah aa β s' t w q C B d A J _;obtain⟨m,c1,c2,c3⟩:=M d A;obtain⟨E,ag,aE⟩:=GU bs z d.heap (fun p j=>⟨p.2,J p j,rfl⟩);simp only[newAt,hD];refine pure fr k cs l i r u ah aa E β s' t w _ m vs v q C B d c3 ag (Ig y ?_ d.heap c1 ag.bR aE) D;intro b ab;rw[<-i3]at ab;obtain⟨p,j,rfl⟩:=ix.1 ab;rw[J p j,i1 p j]
 ·refine⟨_,T,ad.1,ad.2,?_⟩;intro fr k cs l i r u ah aa β s' t w q C B d A J aS;obtain⟨m,c1,c2,c3⟩:=M d A;rw[X.1]at c3;obtain⟨x,w',al,⟨R,aJ,aD,U,g1,g2,g3⟩,aI,ax,V⟩:=X.2 s'.heap w aa ah β _ d.heap c1 c2 J aS (bA fr t u (.inRegion l (i::r)::k)::cs);subst U;refine⟨aD,aJ,_,w',?_,d.put B g1 g2 g3,fun _=>g1.eO⟩;rw[<-mQ q];exact(Steps.one (tW q C Q c3)).trans (Steps.trans aI (.one (ee V)))
 ·refine⟨_,T,ay,by simp,?_⟩;intro fr k cs l i r u ah aa β s' t w q C B d A J aS;obtain⟨m,c1,c2,c3⟩:=M d A;obtain⟨R,y,D⟩:=ao s'.heap w aa ah β _ d.heap c1 c2 J;rw[y]at c3;have j:=bU.refl d.heap;simp only[newAt,hD,bd];exact⟨aa,β,_,w,.one (rA q C Q c3 (.inl rfl)),d.put B j (by simpa[ar]using D) (by simp[aB]),fun _=>j.eO⟩
theorem Tu{o:Oper}{f:db}{a:Array db}{y:Array dg}{b:Nat}{e:aU}{s:St}
 (j:o.op=.call {callee:=.value f,args:=a,argTypes:=y})(hf:ev s.env f=.map b)(hY:sv P b (a.toList.map (ev s.env)) s.heap.length e):Act P n o s e:=by
 have G:∀c,o.op≠.defer c:=fun c hc=>by rw[j]at hc;cases hc
 have u:f∈o.op.operands/\∀x∈a.toList,x∈o.op.operands:=by
  rw[j];simp[gy,ga];exact fun x hx=>.inr hx
 intro fr k cs I i r z ah aa β s' t w v H C d m E aS;have h:=(ny d f).1;rw[m f u.1,hf]at h;simp only[ar,bI,bO]at h;obtain⟨l,p⟩:=uf d a.toList;rw[L8 (fun x hx=>m x (u.2 x hx))]at l p;obtain⟨F,g,tmps,assign,body,A,B⟩:=hY s'.heap w aa ah β _ d.heap l p E aS;have D:=h.2.2 F;have q:(dl (fj t) o).run P w=(Instr.yield (β.ak b) (a.toList.map (fj t)).toArray).run P w:=by
  simp only[dl,j,resolve,D,Deferred.ofValue,hj,hm,hg,invoke];congr 2;exact b5 (by simp)
 rw[A]at q;obtain⟨J,w',aJ,aD,g1,g2,g3,g4⟩:=B (bA fr t z (.inRegion I (i::r)::k)) cs;refine⟨aD,aJ,_,w',?_,d.put C g2 g3 g4,fun _=>g2.eO⟩;rw[<-mQ v];exact(Steps.one (Hn v H G q)).trans g1
theorem Ur(m:kZ P ag){o:Oper}{K:aU->Prop}{s:St}(h:iW P ag o s K):
 ∃e,K e/\(∀p∈e.aj,s.heap[p.1]?=some p.2)/\(∀p∈e.aK,p.1<s.heap.length/\p.2≠.hole)/\Act P n o s e:=by
 have E:=RI h;have q:fh P ag o (ev s.env) s.heap K->∃e,K e/\(∀p∈e.aj,s.heap[p.1]?=some p.2)/\(∀p∈e.aK,p.1<s.heap.length/\p.2≠.hole)/\Act P n o s e:=by
  intro h;obtain⟨e,a,hs,aj,aK⟩:=m o _ _ _ (fun v=>rfl) h;refine⟨e,a,aj,aK,?_⟩;intro fr k cs L i r J ah aa β s' t w F G C d B D aS;obtain⟨nx,I,w',aJ,aD,u,y,j,z,A⟩:=hs s'.heap w aa ah β (fj t) d.heap (fun x hx=>by rw[<-B x hx];exact ny d x) D aS;exact⟨aD,aJ,_,w',.one (rA F G E u y),d.put C j z A,fun _=>j.eO⟩
 unfold iW at h
 split at h
 ·rename_i f args H c
  split at h
  ·rename_i g fi ca hf;exact Jy c (.inr ⟨fi,ca,hf,rfl,rfl⟩) h
  ·rename_i g fi ca hf;exact Jy c (.inl hf) h
  ·rename_i b hf;obtain⟨e,hY,l,a⟩:=h;exact⟨e,a,l.1,l.2,Tu c hf hY⟩
  ·exact h.elim
 ·exact q h
end
section
variable{P:dq}{ag:ec->Bool}{n:Nat}
def looks(a:Array Oper)(o:Oper):List Tmp:=
 (o.op.operands.toList.filterMap fun x=>match x with
  | .tmp t=>some t
  |_=>none)++(match o.guard with
  |some (j,_)=>(match(a[j]?).bind (·.dst)with
   |some d=>[d]
   |none=>[])
  |none=>[])
def pE(c:Array Oper)(a b:Oper):Bool:=
 (match a.dst with
  |some d=>(looks c b).contains d||b.dst==some d
  |none=>false)||
 (match b.dst with
  |some d=>(looks c a).contains d
  |none=>false)
def fit(_:Nat)(a:Array Oper):Bool:=
 (i0 a.size).all fun j=>match a[j]? with
  |some o=>o.after.toList.all (fun e=>!he .any e||decide (e.on<j))&&
   (i0 j).all (fun i=>match a[i]? with
    |some u=>!pE a u o||reach a a.size i j
    |none=>true)
  |none=>true
structure Cu(P:dq)(n:Nat)(ops:Array Oper)(o:Oper)(s:St)(e:aU):Prop where
 aj:∀p∈e.aj,s.heap[p.1]?=some p.2
 aK:∀p∈e.aK,p.1<s.heap.length
 act:(∀(t:Array dk)(s':St)(ah aa:Nat->Prop)(β:Bd)(w:dp),cL P n ah aa β s' t w->(∀x∈looks ops o,aM s'.env x=aM s.env x)->hd o (yielded ops t)=true)/\Act P n o s e\/
  (∀(t:Array dk)(s':St)(ah aa:Nat->Prop)(β:Bd)(w:dp),cL P n ah aa β s' t w->(∀x∈looks ops o,aM s'.env x=aM s.env x)->hd o (yielded ops t)=false)/\e={v:=.p (.aC [])}
inductive Tr(P:dq)(n:Nat)(ops:Array Oper):List Oper->Nat->St->List (St×aU)->St->Prop
 |nil (i:Nat) (s:St):Tr P n ops [] i s [] s
 |cons {o:Oper} {r:List Oper} {i:Nat} {s s':St} {e:aU} {es:List (St×aU)}:Cu P n ops o s e->Tr P n ops r (i+1) (e.app o.dst s) es s'->Tr P n ops (o::r) i s ((s,e)::es) s'
def oA(i:Nat):List (St×aU)->List Touch->List Touch
 |[],acc=>acc
 |(s,e)::r,acc=>oA (i+1) r (gF i s.heap.length e acc)
theorem z6{a:Array Oper}{o:Oper}{j:Nat}{f:Bool}(c:o.guard=some (j,f)){e e':Env}(h:∀x∈looks a o,aM e' x=aM e x):guardOf a j e'=guardOf a j e:=by
 unfold guardOf;cases b:(a[j]?).bind (·.dst)with
 |none=>rfl
 |some d=>
  simp only;exact h d (by simp[looks,c,b])
theorem I0(B:kZ P ag){a:Array Oper}(q:∀o∈a.toList,iG n o=true):∀(l:List Oper)(i:Nat)(d:List Touch)(s:St){K:St->Prop},(∀o∈l,o∈a.toList)->fO P ag a l i d K s->
 ∃c s',Tr P n a l i s c s'/\K s'/\jJ a (oA i c d)=true
 |[],i,d,s,K,_,h=>⟨[],s,.nil i s,h.2,h.1⟩
 |o::l,i,d,s,K,hl,h=>by
  have C:=fun d s(h:fO P ag a l (i+1) d K s)=>I0 B q l (i+1) d s (fun o F=>hl o (by simp[F])) h
  have skip:fO P ag a l (i+1) d K ⟨put o.dst (.p (.aC [])) s.env,s.heap⟩->(∀(t:Array dk)(s':St)(ah aa:Nat->Prop)(β:Bd)(w:dp),cL P n ah aa β s' t w->(∀x∈looks a o,aM s'.env x=aM s.env x)->hd o (yielded a t)=false)->
   ∃c s',Tr P n a (o::l) i s c s'/\K s'/\jJ a (oA i c d)=true:=by
   intro hk A;obtain⟨c,s',r,u,y⟩:=C _ _ hk;refine⟨(s,{v:=.p (.aC [])})::c,s',.cons ⟨by simp,by simp,.inr ⟨A,rfl⟩⟩ ?_,u,by simpa[oA,gF]using y⟩;simpa[aU.app,bd]using r
  have go:iW P ag o s (fun e=>fO P ag a l (i+1) (gF i s.heap.length e d) K (e.app o.dst s))->(∀(t:Array dk)(s':St)(ah aa:Nat->Prop)(β:Bd)(w:dp),cL P n ah aa β s' t w->(∀x∈looks a o,aM s'.env x=aM s.env x)->hd o (yielded a t)=true)->
   ∃c s',Tr P n a (o::l) i s c s'/\K s'/\jJ a (oA i c d)=true:=by
   intro hk A;obtain⟨e,D,aj,aK,E⟩:=Ur (n:=n) B hk;obtain⟨c,s',r,u,y⟩:=C _ _ D;exact⟨(s,e)::c,s',.cons ⟨aj,fun p G=>(aK p G).1,.inl ⟨A,E⟩⟩ r,u,by simpa[oA]using y⟩
  simp only[fO]at h
  split at h
  ·rename_i f;exact go h (fun _ _ _ _ _ _ _ _=>by simp[hd,f])
  ·rename_i j H f
   split at h
   ·rename_i b m
    split at h
    ·rename_i z;refine go h (fun t s' ah aa β w k g=>?_);obtain⟨g1,g2⟩:=wQ k q j;rw[z6 f g]at g1;simp[hd,f,g1 _ m,z]
    ·rename_i z;refine skip h (fun t s' ah aa β w k g=>?_);obtain⟨g1,g2⟩:=wQ k q j;rw[z6 f g]at g1;simp[hd,f,g1 _ m,z]
   ·rename_i m;refine skip h (fun t s' ah aa β w k g=>?_);obtain⟨g1,g2⟩:=wQ k q j;rw[z6 f g]at g2;simp[hd,f,g2 m]
   ·exact h.elim
def uW(a:Array Oper)(D:Nat->Prop):Prop:=∀j o,a[j]?=some o->D j->∀e∈o.after,he .any e=true->D e.on
theorem Aj{c:Array Oper}{D:Nat->Prop}(hc:uW c D):∀(f i j:Nat),reach c f i j=true->(∀o,c[j]?=some o->∀e∈o.after,he .any e=true->D e.on)->D i
 |0,_,_,h,_=>by simp[reach]at h
 |f+1,i,j,h,d=>by
  simp only[reach]at h
  split at h
  case h_2=>simp at h
  rename_i o g;simp only[cy,hN,c9,beq_iff_eq,decide_eq_true_eq]at h;rcases h with⟨e,b,a,rfl⟩|⟨e,b,⟨a,_⟩,k⟩
  ·exact d o g e (by simpa using b) a
  ·have m:=d o g e (by simpa using b) a;exact Aj hc f i e.on k (fun o' p e' n l=>hc _ o' p m e' n l)
end
section
variable{P:dq}{ag:ec->Bool}{n:Nat}
theorem rI(a:Nat)(l:List Obj):(newAt a l).map (·.1)=nu a l:=by
 induction l generalizing a with
 |nil=>rfl
 |cons o l b=>simp[newAt,nu,b]
theorem Gr{a b:Nat}{l:List Obj}:b∈nu a l↔a<=b/\b<a+l.length:=by
 induction l generalizing a with
 |nil=>simp[nu]
 |cons o l c=>simp only[nu,hE,c,List.length_cons];omega
theorem wZ{l:List (Nat×Obj)}{b:Nat}(h:b∉l.map (·.1)):∀H:Heap,(bd H l)[b]?=H[b]?:=by
 induction l with
 |nil=>intro H;rfl
 |cons p l a=>
  obtain⟨c,o⟩:=p;intro H;simp only[hC,hE,not_or]at h;simp only[bd];rw[a h.2,hG (Ne.symm h.1)]
theorem S1{l:List (Nat×Obj)}{b:Nat}(h:b∈l.map (·.1)):∀H H':Heap,H.length=H'.length->(bd H l)[b]?=(bd H' l)[b]?:=by
 induction l with
 |nil=>simp at h
 |cons p l e=>
  obtain⟨c,o⟩:=p;intro H H' hl;simp only[bd]
  by_cases a:b∈l.map (·.1)
  ·exact e a _ _ (by simp[hl])
  ·rw[wZ a,wZ a];simp only[hC,hE]at h;have:b=c:=h.resolve_right a;subst this
   by_cases d:b<H.length
   ·rw[hz d,hz (by omega)]
   ·rw[hU (by simp;omega),hU (by simp;omega)]
def c7(es:List (St×aU))(s':St)(k:Nat):St:=match es[k]? with
 |some (s,_)=>s
 |none=>s'
def fk(es:List (St×aU))(k:Nat):aU:=match es[k]? with
 |some (_,e)=>e
 |none=>{v:=.p .undef}
theorem Tr.at{a:Array Oper}:∀{l:List Oper}{i:Nat}{s s':St}{es:List (St×aU)},Tr P n a l i s es s'->es.length=l.length/\c7 es s' 0=s/\
 ∀k o,l[k]?=some o->Cu P n a o (c7 es s' k) (fk es k)/\c7 es s' (k+1)=(fk es k).app o.dst (c7 es s' k)
 |_,_,_,_,_,.nil i s=>⟨rfl,rfl,fun k o h=>by simp at h⟩
 |_,_,_,_,_,.cons (o:=o) (r:=r) (i:=i) (s:=s) (s':=s') (e:=e) (es:=es) hi d=>by
  obtain⟨h1,b,c⟩:=d.at;refine⟨by simp[h1],rfl,fun k o' hk=>?_⟩;cases k with
  |zero=>
   simp at hk;subst hk;refine⟨by simpa[c7,fk]using hi,?_⟩;have:c7 ((s,e)::es) s' (0+1)=c7 es s' 0:=by simp[c7]
   rw[this,b];simp[c7,fk]
  |succ k=>
   have e1:∀m,c7 ((s,e)::es) s' (m+1)=c7 es s' m:=fun m=>by simp[c7]
   have e2:fk ((s,e)::es) (k+1)=fk es k:=by simp[fk]
   rw[e1,e1,e2];exact c k o' (by simpa using hk)
theorem RU(u:Touch)(i:Nat):iO u ⟨i,[],[]⟩=false:=by
 simp[iO]
theorem Rx(i b:Nat)(e:aU)(a:List Touch):(gF i b e a=a/\gP i b e=⟨i,[],[]⟩)\/gF i b e a=gP i b e::a:=by
 unfold gF
 split
 ·rename_i c d f;exact .inl ⟨rfl,by simp[gP,c,d,f,nu]⟩
 ·exact .inr rfl
theorem Hm{c:Array Oper}:∀(g:List (St×aU))(i:Nat)(d:List Touch),jJ c (oA i g d)=true->jJ c d=true/\
 (∀u∈d,∀b s e,g[b]?=some (s,e)->iO u (gP (i+b) s.heap.length e)=true->reach c c.size u.i (i+b)=true)/\
 (∀a b s e f e2,a<b->g[a]?=some (s,e)->g[b]?=some (f,e2)->iO (gP (i+a) s.heap.length e) (gP (i+b) f.heap.length e2)=true->reach c c.size (i+a) (i+b)=true)
 |[],i,d,h=>⟨h,by simp,by simp⟩
 |(s,e)::g,i,d,h=>by
  simp only[oA]at h;obtain⟨j,m,r⟩:=Hm g (i+1) _ h
  have key:jJ c d=true/\(∀u∈d,iO u (gP i s.heap.length e)=true->reach c c.size u.i i=true)/\(∀u∈d,∀b s e,g[b]?=some (s,e)->iO u (gP (i+1+b) s.heap.length e)=true->reach c c.size u.i (i+1+b)=true)/\
   (∀b f e2,g[b]?=some (f,e2)->iO (gP i s.heap.length e) (gP (i+1+b) f.heap.length e2)=true->reach c c.size i (i+1+b)=true):=by
   rcases Rx i s.heap.length e d with⟨o,q⟩|o
   ·rw[o]at j m;refine⟨j,fun u _ hc=>?_,m,fun b f e2 _ hc=>?_⟩
    ·rw[q,RU]at hc;cases hc
    ·rw[q]at hc;simp[iO]at hc
   ·rw[o]at j m;simp only[jJ,c9,ih]at j;refine⟨j.2,fun u l hc=>?_,fun u l=>m u (by simp[l]),m _ (by simp)⟩;have:=j.1 u l;rw[hc]at this;exact(by simpa using this:reach c c.size u.i (gP i s.heap.length e).i=true)
  obtain⟨k1,k2,k3,k4⟩:=key;refine⟨k1,?_,?_⟩
  ·intro u l b p e1 k hc;cases b with
   |zero=>simp at k;obtain⟨rfl,rfl⟩:=k;exact k2 u l hc
   |succ b=>
    have:=k3 u l b p e1 (by simpa using k);rw[show i+(b+1)=i+1+b by omega]at hc⊢;exact this hc
  ·intro a b p e1 f e2 t n k hc;cases b with
   |zero=>omega
   |succ b=>
    rw[show i+(b+1)=i+1+b by omega]at hc⊢;cases a with
    |zero=>
     simp at n;obtain⟨rfl,rfl⟩:=n;exact k4 b f e2 (by simpa using k) hc
    |succ a=>
     rw[show i+(a+1)=i+1+a by omega]at hc⊢;exact r a b p e1 f e2 (by omega) (by simpa using n) (by simpa using k) hc
end
section
variable{P:dq}{ag:ec->Bool}{n:Nat}
def hx(N:Nat)(s:St):Heap:=s.heap++hB (N-s.heap.length) .hole
def tt(a:Nat)(e:aU):List Nat:=(e.aK++newAt a e.aS).map (·.1)
theorem Yg{N:Nat}{s:St}{e:aU}{o:Oper}(aK:∀p∈e.aK,p.1<s.heap.length)(c:(e.app o.dst s).heap.length<=N):hx N (e.app o.dst s)=bd (hx N s) (e.aK++newAt s.heap.length e.aS):=by
 have hl:(e.app o.dst s).heap=bd s.heap e.aK++e.aS:=rfl;have d:(e.app o.dst s).heap.length=s.heap.length+e.aS.length:=by rw[hl];simp[nX]
 unfold hx;rw[hl];have b:N-s.heap.length=e.aS.length+(N-(s.heap.length+e.aS.length)):=by omega
 rw[b,<-List.replicate_append_replicate,<-hL,wy _ _ _ (by
  intro p a;rcases ii.1 a with a|a
  ·have:=aK p a;simp;omega
  ·have:p.1∈(newAt s.heap.length e.aS).map (·.1):=List.mem_map_of_mem a
   rw[rI,Gr]at this;simp;omega)]
 rw[zX,wy _ _ _ aK];have:=Ai (bd s.heap e.aK) e.aS;rw[nX]at this;rw[this];congr 2;simp[nX]
section sched
variable{ops:Array Oper}{es:List (St×aU)}{s0 s':St}
structure iH(P:dq)(n:Nat)(ops:Array Oper)(es:List (St×aU))(s':St):Prop where
 len:es.length=ops.size
 at_:∀k o,ops[k]?=some o->Cu P n ops o (c7 es s' k) (fk es k)/\c7 es s' (k+1)=(fk es k).app o.dst (c7 es s' k)
 dst:∀o∈ops.toList,iG n o=true
 lower:∀j o,ops[j]?=some o->∀e∈o.after,he .any e=true->e.on<j
 tmps:∀i j u o,i<j->ops[i]?=some u->ops[j]?=some o->pE ops u o=true->reach ops ops.size i j=true
 heap:∀i j,i<j->j<ops.size->iO (gP i (c7 es s' i).heap.length (fk es i)) (gP j (c7 es s' j).heap.length (fk es j))=true->reach ops ops.size i j=true
def wr(a:List (St×aU))(s':St)(i:Nat):List Nat:=tt (c7 a s' i).heap.length (fk a i)
structure At(ops:Array Oper)(es:List (St×aU))(s':St)(D:Nat->Prop)(s:St):Prop where
 tmp:∀x,∃k,k<=ops.size/\aM s.env x=aM (c7 es s' k).env x/\∀i o,ops[i]?=some o->o.dst=some x->(D i↔i<k)
 len:s.heap.length=s'.heap.length
 heap:∀b,∃k,k<=ops.size/\s.heap[b]?=(hx s'.heap.length (c7 es s' k))[b]?/\∀i,i<ops.size->b∈wr es s' i->(D i↔i<k)
variable(h:iH P n ops es s')
include h
theorem iH.mono:∀{k m:Nat},k<=m->m<=ops.size->(c7 es s' k).heap.length<=(c7 es s' m).heap.length:=by
 intro k m e f
 induction m with
 |zero=>
  obtain rfl:k=0:=by omega
  exact i4 _
 |succ m c=>
  by_cases hk:k=m+1
  ·subst hk;exact i4 _
  ·have d:=c (by omega) (by omega);have b:ops[m]?=some ops[m]:=ce (by omega);obtain⟨_,a⟩:=h.at_ m _ b;rw[a];simp only[aU.app,hA,nX];omega
theorem iH.last:c7 es s' ops.size=s':=by
 have:es[ops.size]?=none:=hU (by rw[h.len];exact i4 _);simp[c7,this]
theorem iH.vq{k:Nat}(hk:k<=ops.size):(c7 es s' k).heap.length<=s'.heap.length:=by
 have:=h.mono hk (i4 _)
 rwa [h.last]at this
theorem iH.gJ{k:Nat}(hk:k<ops.size):hx s'.heap.length (c7 es s' (k+1))=bd (hx s'.heap.length (c7 es s' k)) ((fk es k).aK++newAt (c7 es s' k).heap.length (fk es k).aS):=by
 have c:ops[k]?=some ops[k]:=ce hk;obtain⟨h1,b⟩:=h.at_ k _ c;have a:=h.vq (k:=k+1) hk;rw[b]at a⊢;exact Yg h1.aK a
theorem Yf{k:Nat}(hk:k<=ops.size):(hx s'.heap.length (c7 es s' k)).length=s'.heap.length:=by
 have:=h.vq hk;simp[hx];omega
theorem iH.I1{x:Nat}:∀{k m:Nat},k<=m->m<=ops.size->(∀i o,k<=i->i<m->ops[i]?=some o->o.dst≠some x)->aM (c7 es s' m).env x=aM (c7 es s' k).env x:=by
 intro k m j
 induction m with
 |zero=>
  intro _ _;obtain rfl:k=0:=by omega
  rfl
 |succ m g=>
  intro l d
  by_cases hk:k=m+1
  ·subst hk;rfl
  ·have e:=g (by omega) (by omega) (fun i o a b=>d i o a (by omega));have c:ops[m]?=some ops[m]:=ce (by omega);obtain⟨_,f⟩:=h.at_ m _ c;rw[f];simp only[aU.app,ud];rw[if_neg (d m _ (by omega) (by omega) c)];exact e
theorem iH.Iv{b:Nat}:∀{k m:Nat},k<=m->m<=ops.size->(∀i,k<=i->i<m->b∉wr es s' i)->(hx s'.heap.length (c7 es s' m))[b]?=(hx s'.heap.length (c7 es s' k))[b]?:=by
 intro k m f
 induction m with
 |zero=>
  intro _ _;obtain rfl:k=0:=by omega
  rfl
 |succ m e=>
  intro g c
  by_cases hk:k=m+1
  ·subst hk;rfl
  ·have d:=e (by omega) (by omega) (fun i a b=>c i a (by omega));rw[h.gJ (by omega),wZ (c m (by omega) (by omega))];exact d
theorem iH.Ke{x:Nat}{k m:Nat}(hk:k<=ops.size)(g:m<=ops.size)(f:∀i o,ops[i]?=some o->o.dst=some x->(i<k↔i<m)):aM (c7 es s' m).env x=aM (c7 es s' k).env x:=by
 rcases j3 k m with d|d
 ·exact h.I1 d g fun i o a b e c=>by have:=f i o e c;omega
 ·exact(h.I1 d hk fun i o a b e c=>by have:=f i o e c;omega).symm
theorem iH.JX{b:Nat}{k m:Nat}(hk:k<=ops.size)(g:m<=ops.size)(f:∀i,i<ops.size->b∈wr es s' i->(i<k↔i<m)):(hx s'.heap.length (c7 es s' m))[b]?=(hx s'.heap.length (c7 es s' k))[b]?:=by
 rcases j3 k m with e|e
 ·exact h.Iv e g fun i a c d=>by have:=f i (by omega) d;omega
 ·exact(h.Iv e hk fun i a c d=>by have:=f i (by omega) d;omega).symm
variable{D:Nat->Prop}(hc:uW ops D)
include hc
theorem iH.order{i:Nat}{o:Oper}(k:ops[i]?=some o)(h:¬D i)(l:∀e∈o.after,he .any e=true->D e.on):
 (∀j,j<i->reach ops ops.size j i=true->D j)/\(∀j,j<ops.size->i<j->reach ops ops.size i j=true->¬D j):=by
 constructor
 ·intro j g b;exact Aj hc _ _ _ b (fun o' a=>by rw[k]at a;cases a;exact l)
 ·intro j m g b d;exact h (Aj hc _ _ _ b (fun o' a e f c=>hc j o' a d e f c))
theorem iH.reads{i:Nat}{o:Oper}(l:ops[i]?=some o)(q:¬D i)(y:∀e∈o.after,he .any e=true->D e.on){s:St}(t:At ops es s' D s):
 (∀x∈looks ops o,aM s.env x=aM (c7 es s' i).env x)/\(∀b,b∈(fk es i).aj.map (·.1)\/b∈wr es s' i->s.heap[b]?=(hx s'.heap.length (c7 es s' i))[b]?):=by
 obtain⟨v,w⟩:=h.order hc l q y;have hi:i<ops.size:=(b4.1 l).1;constructor
 ·intro x hx;obtain⟨k,k1,k2,k3⟩:=t.tmp x;rw[k2];refine h.Ke (by omega) k1 fun j u m p=>?_;have g:j<ops.size:=(b4.1 m).1;rw[<-k3 j u m p];constructor
  ·intro a;refine v j a (h.tmps j i u o a m l ?_);simp[pE,p,hx]
  ·intro f;rcases i6 j i with a|rfl|a
   ·exact a
   ·exact(q f).elim
   ·exact(w j g a (h.tmps i j o u a l m (by simp[pE,p,hx])) f).elim
 ·intro b c;obtain⟨k,k1,k2,k3⟩:=t.heap b;rw[k2];refine h.JX (by omega) k1 fun j g n=>?_;rw[<-k3 j g n];have r:b∈(gP j (c7 es s' j).heap.length (fk es j)).wr:=by
   unfold wr tt at n;rw[hJ,rI]at n;exact n
  have d:b∈(gP i (c7 es s' i).heap.length (fk es i)).rd\/b∈(gP i (c7 es s' i).heap.length (fk es i)).wr:=by
   rcases c with c|c
   ·exact .inl c
   ·unfold wr tt at c;rw[hJ,rI]at c;exact .inr c
  constructor
  ·intro a;refine v j a (h.heap j i a hi ?_);simp only[iO,cy,hN,hM];exact .inl ⟨b,r,d⟩
  ·intro f;rcases i6 j i with a|rfl|a
   ·exact a
   ·exact(q f).elim
   ·refine(w j g a (h.heap i j a g ?_) f).elim;simp only[iO,cy,hN,hM];rcases d with d|d
    ·exact .inr ⟨b,d,r⟩
    ·exact .inl ⟨b,d,.inr r⟩
theorem iH.next{i:Nat}{o:Oper}(l:ops[i]?=some o)(z:¬D i)(A:∀e∈o.after,he .any e=true->D e.on){s:St}(p:At ops es s' D s):
 At ops es s' (fun j=>D j\/j=i) ⟨put o.dst (fk es i).v s.env,bd s.heap ((fk es i).aK++newAt (c7 es s' i).heap.length (fk es i).aS)⟩:=by
 obtain⟨w,y⟩:=h.order hc l z A;have hi:i<ops.size:=(b4.1 l).1;obtain⟨B,gJ⟩:=h.at_ i o l;refine⟨fun x=>?_,by simp only[nX];exact p.len,fun b=>?_⟩
 ·by_cases hx:o.dst=some x
  ·refine⟨i+1,hi,?_,fun j u d n=>?_⟩
   ·rw[gJ];simp[aU.app,ud,hx]
   ·have g:j<ops.size:=(b4.1 d).1;constructor
    ·rintro(c|rfl)
     ·rcases i6 j i with a|rfl|a
      ·omega
      ·omega
      ·exact(y j g a (h.tmps i j o u a l d (by simp[pE,n,hx])) c).elim
     ·omega
    ·intro a
     by_cases q:j=i
     ·exact .inr q
     ·exact .inl (w j (by omega) (h.tmps j i u o (by omega) d l (by simp[pE,n,hx])))
  ·obtain⟨k,k1,k2,k3⟩:=p.tmp x;refine⟨k,k1,?_,fun j u d n=>?_⟩
   ·simp only[ud];rw[if_neg hx];exact k2
   ·rw[<-k3 j u d n];constructor
    ·rintro(c|rfl)
     ·exact c
     ·rw[l]at d;cases d;exact(hx n).elim
    ·exact .inl
 ·by_cases f:b∈wr es s' i
  ·refine⟨i+1,hi,?_,fun j g m=>?_⟩
   ·rw[h.gJ hi];exact S1 f _ _ (by rw[Yf h (by omega)];exact p.len)
   ·have t:b∈(gP j (c7 es s' j).heap.length (fk es j)).wr:=by
     unfold wr tt at m;rw[hJ,rI]at m;exact m
    have r:b∈(gP i (c7 es s' i).heap.length (fk es i)).wr:=by
     unfold wr tt at f;rw[hJ,rI]at f;exact f
    constructor
    ·rintro(c|rfl)
     ·rcases i6 j i with a|rfl|a
      ·omega
      ·omega
      ·refine(y j g a (h.heap i j a g ?_) c).elim;simp only[iO,cy,hN,hM];exact .inl ⟨b,r,.inr t⟩
     ·omega
    ·intro a
     by_cases q:j=i
     ·exact .inr q
     ·refine .inl (w j (by omega) (h.heap j i (by omega) hi ?_));simp only[iO,cy,hN,hM];exact .inl ⟨b,t,.inr r⟩
  ·obtain⟨k,k1,k2,k3⟩:=p.heap b;refine⟨k,k1,?_,fun j g m=>?_⟩
   ·simp only;rw[wZ f];exact k2
   ·rw[<-k3 j g m];constructor
    ·rintro(c|rfl)
     ·exact c
     ·exact(f m).elim
    ·exact .inl
end sched
end
end Go.au
