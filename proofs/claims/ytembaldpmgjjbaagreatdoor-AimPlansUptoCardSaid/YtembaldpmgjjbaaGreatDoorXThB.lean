import Derived.Test.YtembaldpmgjjbaaGreatDoorXThA
import Derived.Laws.StructEq
import Derived.Laws.Concat
import Derived.ChangeKeysEq
import Derived.MapKept
import Derived.Laws.RangeString
import Derived.Lib.UnsafeStr
import Derived.Laws.BytesArg
import Derived.Orders
/- Parts of a proof. -/
set_option linter.unusedSimpArgs false
set_option linter.unusedVariables false
set_option linter.unusedSectionVars false
open Array renaming getElem?_eq_some_iff->b0, getElem?_eq_getElem->b1, ext'->b2, replicate->b3, getElem?_toList->b4, length_toList->b5, getD_eq_getD_getElem?->ca, getElem?_push->cb, toList_push->cc
open BitVec renaming ofInt->cd
open Bool renaming and_eq_true->ck, cond_eq_ite->cx, false_eq_true->cy, or_eq_true->c6
open Go renaming Program->c9, TypeId->da, run_underlying->db, Value->dd, Operand->dg, FuncId->dl, World->dp, execOp->dq, MapEntry->dx, IntKind->dy, BinOp->dz, Frame->ea, Field->eb, Deferred->ec, step_leave_returned->ed, mem_ready->ee, setRow_other->ei, setRow_heap->ej, getD_set_ne->em, Steps->eo
open Go.Builtin renaming firstCells->eq, min2->er, max2->ew, zeroCells->ey, unsafeString_->eM, min_->eP, max_->e7
open Go.ByteArray renaming toList_eq->e8
open Go.Call renaming operands->e9
open Go.Instr renaming findAsking->fb, findNow->fd, findKey->fi, checkKey->fl, sameNow->fm, mapUpdate->fv, lookup->fw, next->gb
open Go.MapKept renaming run_getObj_map->gc, bytes_beq->ge
open Go.Op renaming operands->gg, equalIn->gi, equal->gj, bytesLess->gm, eqFields->gt, eqItems->gx, stringOp->gy
open Go.Region renaming ready->g8, wanted->g9, binds->hd, schedule->ht
open Go.Region.linearise renaming go->hw
open Go.Result renaming andThen_ok->hC, andThen->hD
open Go.Sem renaming run_bind->hE, run_pure->hF, run->hG
open Go.Steps renaming one->hH, trans->hJ, refl->hK
open Go.Utf8 renaming decode->hM
open Go.Value renaming oneCell'->hN, int->hO
open Int renaming natCast_nonneg->hP, toNat_natCast->hQ
open List renaming getElem?_eq_some_iff->hR, getElem?_eq_getElem->hS, getElem?_set_self->hT, length_append->hU, mem_cons->hV, replicate->hW, map_cons->hX, append_nil->hZ, map_eq_cons_iff->h0, getElem?_set_ne->h5, range->h6, mem_cons_of_mem->h7, all_eq_true->h8, map_append->h9, contains_iff_mem->ih, any_eq_true->ii, mem_iff_getElem->ik, map_eq_nil_iff->ip, append_assoc->ix, take_of_length_le->iA, getElem?_eq_none->iB, mem_of_mem_take->i0, mem_of_getElem?->i4, replicate_succ->i5, mem_map_of_mem->i6, length_pos_iff->i7, size_toArray->i8, map_nil->i9, isEmpty_cons->jp, map_id->js, of_mem_zip->j1, nodup_cons->j2, mem_append->j3, length_map->j4, getElem?_append_left->j5, mem_map->j6, map_map->j7, mem_append_right->j8, mem_of_mem_drop->j9, map->kb, take_succ_cons->kc, map_congr_left->kf, flatten_append->kk, mem_singleton->km, mem_range'_1->ko, countP_congr->kp, range'_succ->kv, nodup_range->kw, map_toArray->kx, length_drop->kz, getElem_mem->kC, countP_cons->kD, nil_append->kF, drop_zero->kH, sum_cons->kL, range'->kO, length->kP
open Nat renaming le_refl->kW, ble->kX, beq->la, lt_irrefl->lb, lt_trichotomy->lc, zero_add->le, ble_eq_true_of_le->li, zero_le->lk, add_mul->ll, strongRecOn->lm, zero_mul->lq, succ_mul->ls, sub_zero->lt, ne_of_lt->lu, le_total->lv, beq_refl->lw
open Ne renaming symm->lz
open Option renaming ite_none_right_eq_some->lW, isSome_iff_exists->l0, getD_some->l3
open Option.some renaming injEq->l4, inj->l5
open PUnit renaming unit->mb
namespace Go.ae
set_option linter.unusedSectionVars false
variable[Gl]
section
variable{P:c9}{w:dp}{ad ai:Nat->Prop}{β:Bd}{H:ak}
variable{o:Oper}{ρ:dg->AV}{base:Nat}
theorem Cp{c:Call}{s x:dg}(D:o.op= .call c)(hc:c.callee= .builtin .append)(y:c.args.toList=[s,x]){T X e:da}(I:c.argTypes=#[T,X]){i:TypeInfo}{j:dd}{sz:Nat}(u:uO P T sz e i)(v:jI P X=true)
 (hz:i.zero=some j)(L:j.cells.size=sz)(F:cK P w ad β H ai){g:dg->dd}{p:Option Addr}{b f:Nat}{olds a:List AV}{ocss:List (List dd)}(hs:g s=.slice p b f)(m:olds.length=b)(l:Row P w ad β H sz olds ocss)(E:bk (aQ H) olds)
 (C:(eq sz b (.slice p b f)).run P w.drew=.ok ocss.flatten.toArray w.drew)
 (hx:kT H (ρ x)=some a)(K:aD P w ad β H (ρ x) (g x))(J:aI (aQ H) (ρ x))(G:gP P sz a)(A:f<b+a.length)(B:b+a.length<=dA):
 ∃cap cells d M,(dq g o).run P w=.ok (.value (.slice (some ⟨w.heap.size,0,none⟩) (b+a.length) cap)) {w.drew with heap:=w.heap.push (.cells cells e)}/\
  Row P w ad β H sz (olds++a) d/\bk (aQ H) (olds++a)/\cells.toList=d.flatten++M/\cells.size=cap*sz/\(olds++a).length<=cap:=by
 obtain⟨d,h,q,r,t⟩:=Dc hx F K J G;have k:=t w.drew rfl a.length (kW _);have N:d.length=a.length:=(jF h).1;rw[iA o_]at k;obtain⟨cap,z,n⟩:=ard u v hz o.type (sLen:=b) (sCap:=f) (p:=p) (g x) r C k A B;rw[<-I,<-hs]at n;refine⟨cap,_,ocss++d,(ey j.cells (cap-(b+a.length))).toList,CA D hc y n,tf.2 ⟨_,_,rfl,l,h⟩,qp E q,s_,?_,by simpa[m]using z⟩;have e1:=(jF l).2;have e2:=(jF h).2;simp only[Array.size_append,i8,Zm,L,e1,e2,m,<-ll];congr 1;omega
theorem x9{T:da}:gk P T≠.frozen/\gk P T≠.exact:=by
 unfold gk;split<;>simp
theorem IM{T e:da}(h:fR P T=e)(hk:gk P T=.bytes):e=Gl.u8:=by
 unfold gk at hk
 split at hk
 ·rename_i a;rw[<-h];exact a
 ·cases hk
theorem GL{_o':Obj}{k:AK}{a:List AV}{b:List (List dd)}{r:List dd}{cells:Array dd}{e:da}{cap sz:Nat}(j:cK P w ad β H ai)(c:H[base]?=some .hole)
 (g:k≠.frozen)(i:¬eU k a)(m:Row P w ad β H sz a b)(d:bk (aQ H) a)(hc:cells.toList=b.flatten++r)(o:cells.size=cap*sz)(h:a.length<=cap)(f:k=.exact->cap=a.length)(p:k=.bytes->e=Gl.u8):
 cF P ai ad w β H ad {w.drew with heap:=w.heap.push (.cells cells e)} (β.at base w.heap.size cap) (bu H ([]++newAt base [.arr k 0 sz a]))/\
 aD P {w.drew with heap:=w.heap.push (.cells cells e)} ad (β.at base w.heap.size cap) (bu H ([]++newAt base [.arr k 0 sz a])) (.sl base 0 sz 0 a.length) (.slice (some ⟨w.heap.size,0,none⟩) a.length cap)/\
 aI (aQ (bu H ([]++newAt base [.arr k 0 sz a]))) (.sl base 0 sz 0 a.length):=by
 have l:cK P w.drew ad β H ai:=cK.CP (w:=w) (w':=w.drew) rfl j;have n:Row P w.drew ad β H sz a b:=Row.mono (w:=w) (w':=w.drew) (fun _ x=>x) (fun _ _=>rfl) (cZ.refl _ _) d m;obtain⟨q1,q⟩:=Ge (T:=e) (k:=k) l c g i n d hc o h f p;rw[oZ];exact⟨cF.drew (w1:=w.drew) rfl ⟨rfl,rfl⟩ q1,q,⟨_,hT (hR.1 c).1,kW _⟩⟩
theorem Qz{b:Nat}{k k':AK}{aF an:Nat}{i es':List AV}{az cap:Nat}(f:H[b]?=some (.arr k aF an i)):cZ β H (β.at b az cap) (H.set b (.arr k' (aF+1) an es')):=by
 have j:b<H.length:=(hR.1 f).1;have d:∀x,x≠b->(H.set b (.arr k' (aF+1) an es'))[x]?=H[x]?:=fun x hx=>h5 (lz hx);have c:(H.set b (.arr k' (aF+1) an es'))[b]?=some (.arr k' (aF+1) an es'):=hT j;refine⟨?_,?_⟩
 ·rintro k x _ ⟨n,h,e⟩
  by_cases hx:x=b
  ·subst hx;rw[c]at h;cases h;cases e
  ·rw[d x hx]at h;exact⟨⟨n,h,e⟩,by simp[Bd.at,hx]⟩
 ·intro x v z m g hi h;unfold jc at h
  by_cases hx:x=b
  ·subst hx;rw[c]at h;cases h;obtain⟨o,a,l⟩:=hi;simp only at a;rw[f]at a;cases a;simp only[Obj.has]at l;omega
  ·rw[d x hx]at h;exact⟨m,g,h,kW _,Iff.rfl,fun _=>by simp[Bd.at,hx]⟩
theorem Bd.atW(β:Bd)(b:Nat):β.at b (β.az b) (β.cap b)=β:=by
 cases β with
 |mk az cap=>
  simp only[Bd.at,Bd.mk.injEq];constructor
  ·funext x;split
   ·rename_i h;rw[h]
   ·rfl
  ·funext x;split
   ·rename_i h;rw[h]
   ·rfl
theorem Za{α:Type}(A M Z X:List α):(A++M++Z).take A.length++X++(A++M++Z).drop (A.length+M.length)=A++X++Z:=by
 rw[ix A M Z,List.take_left,<-ix,<-hU,List.drop_left]
theorem asP{c:Call}{s x:dg}(W:o.op= .call c)(hc:c.callee= .builtin .append)(V:c.args.toList=[s,x])(bN:c.argTypes.size=2){H0:ak}{K:bg->Prop}
 (h:rM P (c.argTypes.getD 0 0) (c.argTypes.getD 1 0) H0 (ρ s) (ρ x) K):
 ∃e,K e/\bM P o ρ H0.length e/\(∀p∈e.aA,H0[p.1]?=some p.2)/\(∀p∈e.aW,p.1<H0.length/\p.2≠.hole):=by
 obtain⟨T,X,R⟩:∃T X,c.argTypes=#[T,X]:=by
  obtain⟨l,G⟩:∃l,l=c.argTypes.toList:=⟨_,rfl⟩
  have ac:l.length=2:=by rw[G];simpa using bN
  match l,ac with
  |[a,b],_=>exact⟨a,b,by apply b2;simp[<-G]⟩
 have A:s∈o.op.operands/\x∈o.op.operands:=by
  have bz:c.args=#[s,x]:=by apply b2;simpa using V
  rw[W];simp[gg,e9,hc,bz]
 have e1:c.argTypes.getD 0 0=T:=by rw[R];rfl
 have e2:c.argTypes.getD 1 0=X:=by rw[R];rfl
 rw[e1,e2]at h;unfold rM at h
 split at h
 case h_2=>exact h.elim
 rename_i sz g E hx;obtain⟨ae,hz,ag,h⟩:=h;obtain⟨e,i,E⟩:=qo E;obtain⟨z,hz⟩:=l0.1 hz;obtain⟨bV,bS,z1,z2,z3,z4⟩:=wW hz;rw[E.wx]at z1 z4;rw[E.info]at z1;cases z1;have aP:bS.cells.size=sz:=by
  obtain⟨_,i2,k1,k2⟩:=Cr (v:=.p z) (w:=default) (ad:=fun _=>False) (β:=⟨id,id⟩) (H:=[]) z4 (by simp only[bG];exact z3 _ _);rw[E.info]at k1;cases k1;have:=E.size;simp at k2;omega
 have a4:∀{aA:List (Nat×Obj)},(∀p∈eX H0 (ρ x),p∈aA)->(∀p∈aA,H0[p.1]?=some p.2)->g=[]->(∀(H:ak)(w:dp)(ad ai:Nat->Prop)(β:Bd)(v:dd),cK P w ad β H ai->(∀p∈aA,H[p.1]?=some p.2)->aD P w ad β H (ρ s) v->∃p a b,v= .slice p a b/\a<=b)->
  bM P o ρ H0.length {v:=ρ s,aA}:=by
  intro aA bL ap bO bJ;subst bO;refine bM.same fun H w ad ai β ao f j aA=>?_;obtain⟨p,a,b,t,bx⟩:=bJ H w ad ai β _ f aA (j s A.1).1;obtain⟨D,B,ac,bt,bv⟩:=Dc (uC hx (fun p t=>aA p (bL p t))) f (j x A.2).1 (j x A.2).2 ag;have bb:=bv w rfl 0 (kW _);simp only[List.take_zero,List.flatten_nil]at bb;have Q:=aom E ae o.type (p:=p) (sLen:=a) (sCap:=b) _ bt bb bx;rw[<-R,<-t]at Q;exact⟨_,CA W hc V Q,by rw[t];exact t▸(j s A.1).1,(j s A.1).2⟩
 have a3:∀l:List AV,l.isEmpty=true->l=[]:=fun l h=>by simpa using h
 split at h
 ·
  rename_i hs
  split at h
  ·rename_i F;refine⟨_,h,?_,tj,s_⟩;exact a4 (fun p t=>t) tj (a3 _ F) (fun H w ad ai β v _ _ u=>by rw[hs]at u;simp only[aD,aH]at u;exact⟨_,_,_,u,kW _⟩)
  ·rename_i F;obtain⟨bh,h⟩:=h;refine⟨_,h,?_,tj,s_⟩;intro H w ad ai β ao f j aA ay;have af:H[H0.length]?=some .hole:=by simpa using ay 0 s_
   have O:=(j s A.1).1;rw[hs]at O;simp only[aD,aH]at O;have bj:0<g.length:=i7.2 (by simpa using F);obtain⟨cap,cells,D,C,r1,ah,aa,aj,al,am⟩:=Cp W hc V R E ae z2 aP f O (olds:=[]) (ocss:=[]) rfl (jv.2 rfl) (by simp[bk]) (by simp[eq])
    (uC hx aA) (j x A.2).1 (j x A.2).2 ag o_ o_
   obtain⟨q1,Y,Z⟩:=GL (base:=H0.length) (k:=gk P T) (e:=e) (_o':=.hole) f af x9.1 (fun hn=>F (by simpa using hn.2)) ah aa aj al am (fun h=>(x9.2 h).elim) (IM E.wx);simp only[kF,le]at r1 q1 Y Z;exact⟨_,_,_,_,ad,r1,.inl rfl,q1,Y,Z⟩
 ·
  rename_i full d hs;obtain⟨bA,h⟩:=h
  have O:∀{H:ak}{w:dp}{ad:Nat->Prop}{β:Bd}{v:dd},aD P w ad β H (ρ s) v->∃p c M,v= .slice p d.length c/\d.length<=c/\(full=true->c=d.length)/\Row P w ad β H sz (d.map .p) M/\
   (∀w':dp,w'.heap=w.heap->(eq sz d.length v).run P w'=.ok M.flatten.toArray w'):=by
   intro H w ad β v u;rw[hs]at u;simp only[aD,aH]at u;obtain⟨az,off,cap,an,D,v1,v2,v3,v4,v5,sp,bK,rfl⟩:=u;rcases bK with rfl|rfl
   case inr=>
    obtain rfl:d=[]:=List.length_eq_zero_iff.1 o_;exact⟨_,_,[],rfl,s_,s_,jv.2 rfl,fun w' _=>FU⟩
   have aE:Row P w ad β H an (d.map .p) D:=pq.2 v1;have bp:Row P w ad β H sz (d.map .p) D:=by
    by_cases bi:d.map AV.p=[]
    ·rw[bi]at aE⊢;rw[jv]at aE⊢;exact aE
    ·rw[<-xu aE bA bi];exact aE
   refine⟨_,_,D,rfl,v5,v4,bp,fun w' a2=>zy (by have:=(jF bp).2;simpa using this) (v3.same (by rw[a2]))⟩
  split at h
  ·rename_i F;refine⟨_,h,?_,tj,s_⟩;exact a4 (fun p t=>t) tj (a3 _ F) (fun H w ad ai β v _ _ u=>by obtain⟨p,c,_,B,ac,_⟩:=O u;exact⟨p,_,c,B,ac⟩)
  ·rename_i F;obtain⟨hf,bh,h⟩:=h;refine⟨_,h,?_,tj,s_⟩;intro H w ad ai β ao f j aA ay;have af:H[H0.length]?=some .hole:=by simpa using ay 0 s_
   have bj:0<g.length:=i7.2 (by simpa using F);obtain⟨p,cp,M,s1,s2,bQ,bR,bs⟩:=O (j s A.1).1;rw[s1]at bs;obtain⟨cap,cells,D,C,r1,ah,aa,aj,al,am⟩:=Cp W hc V R E ae z2 aP f s1 (olds:=d.map .p) s_ bR (kU _ _) (bs w.drew rfl)
    (uC hx aA) (j x A.2).1 (j x A.2).2 ag (by have:=bQ hf;omega) o_
   obtain⟨q1,Y,Z⟩:=GL (base:=H0.length) (k:=gk P T) (e:=e) (_o':=.hole) f af x9.1 (fun hn=>F (by have:=hn.2;simp at this;simp[this.2])) ah aa aj al am (fun h=>(x9.2 h).elim) (IM E.wx);simp only[hU,j4]at Y Z;exact⟨_,_,_,_,ad,r1,.inl rfl,q1,Y,Z⟩
 ·
  rename_i b aF an off len hs
  split at h
  case h_2=>exact h.elim
  rename_i k bW bT d a0;obtain⟨rfl,rfl,rfl,hlen,h⟩:=h;have ap:∀p∈(b,Obj.arr k aF an d)::eX H0 (ρ x),H0[p.1]?=some p.2:=by
   intro p t;rcases hV.1 t with rfl|t
   ·exact a0
   ·exact tj p t
  have O:∀{H:ak}{w:dp}{ad ai:Nat->Prop}{β:Bd}{v:dd},cK P w ad β H ai->H[b]?=some (.arr k aF an d)->aD P w ad β H (ρ s) v->
   (eU k d/\v=.slice none 0 0/\len=0)\/(¬eU k d/\v=.slice (some ⟨β.az b,off*an,none⟩) len (β.cap b-off)/\
   ∃cs T D C,w.heap[β.az b]?=some (.cells cs T (0,0))/\Row P w ad β H an d D/\cs.toList=D.flatten++C/\
   cs.size=β.cap b*an/\d.length<=β.cap b/\(k=.exact->β.cap b=d.length)/\dV ad β ai (k== .frozen) b/\(k=.bytes->T=Gl.u8)):=by
   intro H w ad ai β v f q u;rw[hs]at u;simp only[aD,cg,cG]at u;obtain⟨_,v2,v3⟩:=u.2 k d q
   by_cases hn:eU k d
   ·exact .inl ⟨hn,v2 hn,by have:=hn.2;subst this;simp at hlen;omega⟩
   ·rcases f.dQ b _ q with hold|⟨cs,N,D,C,k1,k2,k3,k4,k5,k6,k7,k8⟩
    ·exact(hn hold).elim
    ·exact .inr ⟨hn,v3 hn,cs,N,D,C,k1,k2,k3,k4,k5,k6,k7,k8.2⟩
  have holds:∀{H:ak}{w:dp}{ad:Nat->Prop}{β:Bd}{cs:Array dd}{N:da}{D:List (List dd)}{C:List dd},w.heap[β.az b]?=some (.cells cs N (0,0))->Row P w ad β H an d D->cs.toList=D.flatten++C->
   ∃M,Row P w ad β H an ((d.drop off).take len) M/\∀(w':dp)(n c:Nat),w'.heap=w.heap->(eq an len (.slice (some ⟨β.az b,off*an,none⟩) n c)).run P w'=.ok M.flatten.toArray w':=by
   intro H w ad β cs N D C k1 k2 k3;obtain⟨a,m,z,g1,g2,g3,g4,g5⟩:=qq k2 off len hlen;refine⟨m,g2,fun w' n c a2=>zy (by have:=(jF g2).2;rw[this];congr 1;simp;omega) ?_⟩;have:=pc k1 (pre:=a.flatten) (xs:=m.flatten) (post:=z.flatten++C) (by rw[k3,g1];simp);rw[g3]at this;exact this.same (by rw[a2])
  split at h
  ·rename_i F;refine⟨_,h,?_,ap,s_⟩;refine a4 (fun p t=>h7 _ t) ap (a3 _ F) (fun H w ad ai β v f aA u=>?_);rcases O f (aA (b,_) s_) u with⟨_,B,_⟩|⟨hn,B,cs,N,D,C,ac⟩
   ·exact⟨_,_,_,B,kW _⟩
   ·exact⟨_,_,_,B,o_⟩
  ·rename_i F;have bj:0<g.length:=i7.2 (by simpa using F);obtain⟨bh,h⟩:=h
   split at h
   ·exact h.elim
   ·
    split at h
    ·rename_i ar;refine⟨_,h,?_,ap,by simpa using(hR.1 a0).1⟩;intro H w ad ai β ao f j aA _;have q:H[b]?=some (.arr .exact aF an d):=aA (b,_) s_;rcases O f q (j s A.1).1 with⟨hn,_⟩|⟨hn,B,cs,N,D,C,k1,k2,k3,k4,k5,k6,k7,k8⟩
     ·cases hn.1
     obtain⟨J,U,a5,a6,a7⟩:=Dc (uC hx (fun p t=>aA p (h7 _ t))) f (j x A.2).1 (j x A.2).2 ag;have aK:=a7 w rfl g.length (kW _);rw[iA (by have:=(jF U).1;omega)]at aK;have be:=k6 rfl;obtain⟨a,m,ab,g1,g2,g3,g4,g5⟩:=qq k2 (off+len) g.length ar;have au:=(jF U).2;have aq:m.flatten.length=g.length*an:=by have:=(jF g2).2;rw[this];congr 1;simp;omega
     have aL:cs.toList=a.flatten++m.flatten++(ab.flatten++C):=by rw[k3,g1];simp
     have bd:a.flatten.length=off*an+len*an:=by rw[g3,ll]
     have bq:cs.size=a.flatten.length+m.flatten.length+(ab.flatten++C).length:=by
      have:=congrArg kP aL;simp only[hU,b5]at this;rw[this,hU]
     have Q:=OE E ae o.type (sLen:=len) (sCap:=β.cap b-off) _ a6 k1 aK (GK U) o_ (by rw[au,bq,bd,aq];exact Nat.le_add_right _ _);rw[<-R,<-B]at Q;have bm:cs.toList.take (off*an+len*an)++J.flatten++cs.toList.drop (off*an+len*an+J.flatten.length)=a.flatten++J.flatten++(ab.flatten++C):=by
      rw[aL,<-bd,au,<-aq];exact Za _ _ _ _
     rw[bm]at Q;have aY:cZ β H β (H.set b (.arr .exact aF an (d.take (off+len)++g++d.drop (off+len+g.length)))):=Lz q (by simp;omega);have ax:¬ad (β.az b)/\¬ai (β.az b):=by
      unfold dV at k7;rw[if_neg s_]at k7;exact k7
     have a1:∀I,ad I->(w.setRow (β.az b) (a.flatten++J.flatten++(ab.flatten++C)).toArray).heap[I]?=w.heap[I]?:=fun I aW=>ei w _ I _ (fun aV=>ax.1 (aV▸aW));have hrefs:bk (aQ H) (d.take (off+len)++g++d.drop (off+len+g.length)):=by
      have bl:=eQ.1 (f.refs b _ q);refine qp (qp ?_ a5) ?_
      ·rw[eQ];exact fun v u=>bl v (i0 u)
      ·rw[eQ];exact fun v u=>bl v (j9 u)
     have aM:=rP q (o:=.arr .exact aF an (d.take (off+len)++g++d.drop (off+len+g.length))) (fun _ h=>h);have aX:(d.take (off+len)++g++d.drop (off+len+g.length)).length=d.length:=by simp;omega
     have aC:=zz f q hn (o':=.arr .exact aF an (d.take (off+len)++g++d.drop (off+len+g.length))) (fun S=>by cases S.1) (fun _ h=>h) k1 (new:=(a.flatten++J.flatten++(ab.flatten++C)).toArray) ax aY
      (.inr ⟨_,N,a++J++ab,C,ej w _ _ _ N _ k1,by
       refine Row.mono (fun _ x=>x) a1 aY hrefs (tf.2 ⟨_,_,rfl,tf.2 ⟨_,_,rfl,g4,U⟩,g5⟩),s_,by
       rw[<-k4,bq];simp only[i8,hU,au,aq],by rw[aX];exact k5,fun _=>by rw[aX];exact be,k7,(fun aN=>by cases aN),k8⟩) (bk.mono aM _ hrefs)
     refine⟨_,_,_,β,ad,CA W hc V Q,.inl rfl,aC,?_,?_⟩
     ·simp only[aD,cg,cG,bu,newAt,hZ];refine⟨by simp[hN],fun I a9 G=>?_⟩;unfold jc at G;rw[hT (hR.1 q).1]at G;cases G;exact⟨by rw[aX];omega,(fun S=>by cases S.1),fun _=>trivial⟩
     ·simp only[aI];exact⟨_,hT (hR.1 q).1,kW _⟩
    ·rename_i ar;refine⟨_,h,?_,ap,s_⟩;intro H w ad ai β ao f j aA ay;have af:H[H0.length]?=some .hole:=by simpa using ay 0 s_
     have q:H[b]?=some (.arr .exact aF an d):=aA (b,_) s_;rcases O f q (j s A.1).1 with⟨hn,_⟩|⟨hn,B,cs,N,D,C,k1,k2,k3,k4,k5,k6,k7,k8⟩
     ·cases hn.1
     have be:=k6 rfl;obtain⟨M,aG,aS⟩:=holds k1 k2 k3;have bf:((d.drop off).take len).length=len:=by simp;omega
     obtain⟨cap,cells,a8,br,r1,ah,aa,aj,al,am⟩:=Cp W hc V R E ae z2 aP f B (olds:=(d.drop off).take len) bf aG
      (by rw[eQ];exact fun v u=>eQ.1 (f.refs b _ q) v (j9 (i0 u))) (aS w.drew _ _ rfl)
      (uC hx (fun p t=>aA p (h7 _ t))) (j x A.2).1 (j x A.2).2 ag o_ o_
     obtain⟨q1,Y,Z⟩:=GL (base:=H0.length) (k:=gk P T) (e:=e) (_o':=.hole) f af x9.1 (fun hn=>F (by have:=hn.2;simp at this;simp[this.2])) ah aa aj al am (fun h=>(x9.2 h).elim) (IM E.wx);rw[hU,bf]at Y Z;exact⟨_,_,_,_,ad,r1,.inl rfl,q1,Y,Z⟩
   ·
    rename_i bC bD;obtain⟨rfl,bE,h⟩:=h;have aB:k≠.frozen:=fun e=>bC e;have aN:k≠.exact:=fun e=>bD e;have bU:(k==AK.frozen)=false:=by simpa using aB
    refine⟨_,h,?_,ap,by simpa using(hR.1 a0).1⟩;intro H w ad ai β ao f j aA _;have q:H[b]?=some (.arr k aF an d):=aA (b,_) s_;have av:b<H.length:=(hR.1 q).1;have aO:(d.take len).length=len:=by simp;omega
    have bo:bk (aQ H) (d.take len):=by rw[eQ];exact fun v u=>eQ.1 (f.refs b _ q) v (i0 u)
    have aZ:¬eU k (d.take len++g):=fun S=>F (by have:=S.2;simp at this;simp[this.2]);have aM:=rP q (o:=.arr k (aF+1) an (d.take len++g)) (fun v h=>by simp only[Obj.has]at h⊢;omega)
    have ba:∀(p:Option Addr)(aU:Nat)(M:List (List dd)),ao s= .slice p len aU->Row P w ad β H an (d.take len) M->(eq an len (.slice p len aU)).run P w.drew= .ok M.flatten.toArray w.drew->aU<len+g.length->
     ∃n cv w' aR aJ,(dq ao o).run P w=.ok n w'/\(n=.value cv\/n=.skip/\cv=undef)/\
      cF P ai ad w β H aJ w' aR (H.set b (.arr k (aF+1) an (d.take len++g)))/\aD P w' aJ aR (H.set b (.arr k (aF+1) an (d.take len++g))) (.sl b (aF+1) an 0 (len+g.length)) cv/\
      aI (aQ (H.set b (.arr k (aF+1) an (d.take len++g)))) (.sl b (aF+1) an 0 (len+g.length)):=by
     intro p aU M B bH bF bB;obtain⟨cap,cells,a8,br,r1,ah,aa,aj,al,am⟩:=Cp W hc V R E ae z2 aP f B (olds:=d.take len) aO bH bo bF
      (uC hx (fun p t=>aA p (h7 _ t))) (j x A.2).1 (j x A.2).2 ag bB o_
     have aY:=Qz (β:=β) (k':=k) (es':=d.take len++g) (az:=w.heap.size) (cap:=cap) q;have aC:cF P ai ad w β H ad {w.drew with heap:=w.heap.push (.cells cells e)} (β.at b w.heap.size cap) (H.set b (.arr k (aF+1) an (d.take len++g))):=by
      refine cF.set f av (fun y bP=>by simp[Bd.at,bP]) (fun _ y=>y) (fun _ y=>.inl y) (fun k hk=>by have:=f.cq k hk;simp;omega) s_
       (fun k _ hk=>by simp[cb,lu hk]) (fun _=>.inl (by simp[Bd.at])) aY
       (.inr ⟨cells,e,a8,br,by simp[Bd.at],Row.mono (fun _ y=>y) (fun k hk=>by have:=f.cq k hk;simp[cb,lu this]) aY aa ah,aj,by simp[Bd.at,al],by simpa[Bd.at]using am,(fun aw=>(aN aw).elim),by
        unfold dV;rw[if_neg (by simpa using aB)];simp only[Bd.at,if_true];exact⟨fun h=>lb _ (f.cq _ h),fun h=>lb _ (f.fN _ h)⟩,(fun aw=>(aB aw).elim),fun af=>E.wx▸bE af⟩)
       (bk.mono aM _ aa) (fun aG v B ac=>by rw[q]at B;cases B;simp only[Obj.has]at ac⊢;omega) (fun L bc=>by rw[q]at bc;cases bc)
     refine⟨_,_,_,_,ad,r1,.inl rfl,aC,?_,?_⟩
     ·simp only[aD,cg,cG];refine⟨by simp[hN],fun I a9 G=>?_⟩;unfold jc at G;rw[hT av]at G;cases G;exact⟨by rw[hU,aO];omega,fun S=>(aZ S).elim,fun _=>by simp[Bd.at]⟩
     ·simp only[aI];exact⟨_,hT av,kW _⟩
    simp only[bu,newAt,hZ];rcases O f q (j s A.1).1 with⟨hn,B,rfl⟩|⟨hn,B,cs,N,D,C,k1,k2,k3,k4,k5,k6,k7,k8⟩
    ·exact ba none 0 [] B (by simp[jv]) (by simp[eq]) o_
    ·simp only[lq,lt]at B
     by_cases ar:len+g.length<=β.cap b
     ·
      obtain⟨J,U,a5,a6,a7⟩:=Dc (uC hx (fun p t=>aA p (h7 _ t))) f (j x A.2).1 (j x A.2).2 ag;have aK:=a7 w rfl g.length (kW _);rw[iA (by have:=(jF U).1;omega)]at aK;obtain⟨a,m,ab,g1,g2,g3,g4,g5⟩:=qq k2 0 len hlen;have bw:a=[]:=by have:=(jF g4).1;simpa using this
      subst bw;have au:=(jF U).2;have aq:m.flatten.length=len*an:=by have:=(jF g2).2;rw[this];congr 1
      have aL:cs.toList=m.flatten++(ab.flatten++C):=by rw[k3,g1];simp
      have bI:=Nat.mul_le_mul_right an ar;rw[ll]at bI;have Q:=OE E ae o.type (off:=0) (sLen:=len) (sCap:=β.cap b) _ a6 k1 aK (GK U) ar (by rw[au,k4];omega);rw[<-R,<-B]at Q;obtain⟨aT,bn⟩:∃r,r=cs.toList.drop (len*an+J.flatten.length):=⟨_,rfl⟩
      have bm:cs.toList.take (0+len*an)++J.flatten++cs.toList.drop (0+len*an+J.flatten.length)=(m++J).flatten++aT:=by
       rw[le,<-bn];congr 1;rw[aL,<-aq];simp
      rw[bm]at Q;have ax:¬ad (β.az b)/\¬ai (β.az b):=by
       unfold dV at k7;rw[if_neg (by simpa using aB)]at k7;exact k7
      have aY:cZ β H β (H.set b (.arr k (aF+1) an (d.take len++g))):=by
       have:=Qz (β:=β) (k':=k) (es':=d.take len++g) (az:=β.az b) (cap:=β.cap b) q
       rwa [Bd.atW]at this
      have a1:∀I,ad I->(w.setRow (β.az b) ((m++J).flatten++aT).toArray).heap[I]?=w.heap[I]?:=fun I aW=>ei w _ I _ (fun aV=>ax.1 (aV▸aW));have hrefs:bk (aQ H) (d.take len++g):=qp bo a5;have aC:=zz f q hn (o':=.arr k (aF+1) an (d.take len++g)) aZ (fun v h=>by simp only[Obj.has]at h⊢;omega) k1 (new:=((m++J).flatten++aT).toArray) ax aY
       (.inr ⟨_,N,m++J,aT,ej w _ _ _ N _ k1,by
        refine Row.mono (fun _ x=>x) a1 aY hrefs (tf.2 ⟨_,_,rfl,?_,U⟩);simpa using g2,s_,by
        rw[<-k4];simp only[i8,hU,kk,au,aq,bn,kz,b5,k4];omega,by rw[hU,aO];exact ar,(fun aw=>(aN aw).elim),k7,(fun h=>(aB h).elim),k8⟩) (bk.mono aM _ hrefs)
      refine⟨_,_,_,β,ad,CA W hc V Q,.inl rfl,aC,?_,?_⟩
      ·simp only[aD,cg,cG];refine⟨by simp[hN],fun I a9 G=>?_⟩;unfold jc at G;rw[hT av]at G;cases G;exact⟨by rw[hU,aO];omega,fun S=>(aZ S).elim,fun _=>by simp⟩
      ·simp only[aI];exact⟨_,hT av,kW _⟩
     ·obtain⟨M,aG,aS⟩:=holds k1 k2 k3;simp only[kH,lq]at aG aS;exact ba _ _ M B aG (aS w.drew _ _ rfl) o_
 ·exact h.elim
end
section
variable{P:c9}{w:dp}{ad ai:Nat->Prop}{β:Bd}{H:ak}
variable{o:Oper}{ρ:dg->AV}{base:Nat}
def kV(bs:ByteArray):List Nat:=bs.data.toList.map (·.toNat)
theorem FY:∀{a b:List UInt8},a.map (·.toNat)=b.map (·.toNat)->a=b
 |[],[],_=>rfl
 |[],_::_,h=>by simp at h
 |_::_,[],h=>by simp at h
 |x::a,y::b,h=>by
  simp at h;rw[UInt8.toNat_inj.1 h.1,FY h.2]
theorem bytes_beq(a b:ByteArray):(a.toList==b.toList)=(kV a==kV b):=by
 rw[e8,e8];unfold kV
 by_cases h:a.data.toList=b.data.toList
 ·simp[h]
 ·have d:¬(a.data.toList.map (·.toNat)=b.data.toList.map (·.toNat)):=fun c=>h (FY c)
  rw[beq_eq_false_iff_ne.2 h,beq_eq_false_iff_ne.2 d]
theorem Og:∀a b:List UInt8,gm a b=lH (a.map (·.toNat)) (b.map (·.toNat))
 |[],[]=>rfl
 |_::_,[]=>rfl
 |[],_::_=>rfl
 |x::a,y::b=>by
  simp only[gm,hX,lH,Og a b];congr 1
  ·congr 1
   by_cases h:x=y
   ·simp[h]
   ·have:¬x.toNat=y.toNat:=fun c=>h (UInt8.toNat_inj.1 c);rw[beq_eq_false_iff_ne.2 h,beq_eq_false_iff_ne.2 this]
theorem aO4{c:dz}{T j:da}{x y:dg}{a b:List Nat}{K:PV->Prop}(g:o.op= .binOp c T x y j)(hx:ρ x= .p (.str a))(u:ρ y= .p (.str b))
 (h:tQ c a b K)(aA:List (Nat×Obj)):∃v,K v/\bM P o ρ base {v:=.p v,aA}:=by
 have key:∀v,K v->(∀(w:dp)(ad:Nat->Prop)(s t:ByteArray),a=kV s->b=kV t->∃r,(gy c s t).run P w=.ok r w/\aH P w ad v r)->∃v,K v/\bM P o ρ base {v:=.p v,aA}:=by
  intro v q n;refine⟨v,q,bM.same fun H w ad ai β B A i _=>?_⟩;have e:=(i x (by simp[g,gg])).1;have f:=(i y (by simp[g,gg])).1;rw[hx]at e;rw[u]at f;simp only[aD,Sc]at e f;obtain⟨s,e1,e2⟩:=e;obtain⟨t,e3,e4⟩:=f;obtain⟨r,r1,z⟩:=n w ad s t e2 e4;refine⟨r,?_,by simpa only[aD]using z,by simp[aI]⟩;simp only[dq,g,e1,e3];refine gI ?_;have l:(eqGuard c T x y (.string s) (.string t)).run P w=.ok () w:=by
   unfold eqGuard
   split<;>simp
  have k:(binOp c T (.string s) (.string t)).run P w=.ok r w:=by
   cases c<;>first|(simp[tQ]at h;done)|exact r1
  simp[l,k]
 have m:∀s t:ByteArray,a=kV s->b=kV t->gm s.toList t.toList=lH a b/\(s.toList==t.toList)=(a==b):=by
  intro s t hs d;rw[bytes_beq,<-hs,<-d,Og,e8,e8];exact⟨by rw[hs,d];rfl,rfl⟩
 cases c<;>simp only[tQ]at h
 case add=>
  refine key _ h.2 fun w ad s t hs d=>⟨.string (s++t),run_string_add_sum w s t ?_,?_⟩
  ·have e:a.length=s.size:=by rw[hs];simp[kV]
   have f:b.length=t.size:=by rw[d];simp[kV]
   omega
  ·rw[Sc];exact⟨_,rfl,by rw[hs,d];simp[kV,ByteArray.data_append]⟩
 case eql|neq|lss|leq|gtr|geq=>
  refine key _ h fun w ad s t hs d=>?_;obtain⟨e1,e2⟩:=m s t hs d;exact⟨_,by simp only[gy,e1,e2];rfl,by simp[aH]⟩
theorem ZK{T:da}(h:vf P T=true):P.underlying T=some .bool:=by
 unfold vf at h
 split at h
 ·assumption
 ·simp at h
theorem Ob{T:da}{a b:dd}{r:Bool}{w:dp}(h:(gj T a b).run P w= .ok r w)(d:(∃x,a= .bool x)\/(∃x,a= .agg x)\/(∃p n c,a= .slice p n c)\/(∃m,a= .map m)\/a= .nilFunc\/(∃f x y,a= .func f x y)\/(∃p,a= .pointer p)\/a= .nilIface):
 (binOp .eql T a b).run P w=.ok (.bool r) w/\(binOp .neq T a b).run P w=.ok (.bool !r) w:=by
 rcases d with⟨x,rfl⟩|⟨x,rfl⟩|⟨p,n,c,rfl⟩|⟨m,rfl⟩|rfl|⟨f,x,y,rfl⟩|⟨p,rfl⟩|rfl
 all_goals (constructor<;>(unfold binOp;simp[h]))
def lX.isAgg:lX->Bool
 | .agg _=>true
 |_=>false
theorem atm{T:da}{t:lX}(hk:kindOf P T=t)(a:t≠.bad)(w:dp):(isAgg T).run P w=.ok t.isAgg w:=by
 unfold kindOf at hk;cases hu:P.underlying T with
 |none=>rw[hu]at hk;simp at hk;exact(a hk.symm).elim
 |some d=>
  rw[hu]at hk;simp only[isAgg,hE,db hu,hC];cases d<;>simp only at hk<;>(split at hk<;>first|(subst hk;rfl)|exact(a hk.symm).elim)
theorem vh{F:da}{v:PV}{pre c post:List dd}{cs:Array dd}(hk:kindOf P F=aP v)(b:bc P w ad v c)(e:cs.toList=pre++c++post):
 ∃x,(part F cs pre.length).run P w=.ok x w/\aH P w ad v x:=by
 obtain⟨j,i,f,g⟩:=Cr (v:=.p v) (β:=⟨id,id⟩) (H:=[]) (w:=w) (ad:=ad) hk (by simpa only[bG]using b);have d:=(uK b).2;have a:=atm hk d w;cases hs:aP v with
 |bad=>exact(d hs).elim
 |leaf=>
  rw[hs]at a;obtain⟨x,rfl,hx⟩:=(xy hs c).1 b;refine⟨x,?_,hx⟩;have:cs[pre.length]?=some x:=by rw[<-b4,e];simp
  simp[part,a,this,lX.isAgg]
 |agg u=>
  rw[hs]at a;refine⟨.agg c.toArray,?_,(AA hs c).1 b⟩;have h:(sizeOf F).run P w=.ok c.length w:=by simp[sizeOf,typeInfo,f,g]
  have:cs.extract pre.length (pre.length+c.length)=c.toArray:=by
   apply b2;rw[Array.toList_extract,e];simp[List.extract_eq_take_drop]
  simp[part,a,h,this,lX.isAgg]
theorem Az{n:Nat}{b:List Nat}{v:PV}{vs:List PV}{a:List (List dd)}(h:bA P w ad (n::b) (v::vs) a):∃c cs,a=c::cs/\bc P w ad v c/\c.length=n/\bA P w ad b vs cs:=by
 simpa only[bA]using h
theorem Of{eqF:da->PV->PV->Option Bool}{d:Nat}(A:∀F a b r,eqF F a b=some r->kindOf P F=aP a->kindOf P F=aP b->∀x y,aH P w ad a x->aH P w ad b y->(gi d F x y).run P w= .ok r w){X Y:Array dd}:
 ∀(fs:List eb)(l:List Nat)(j k:List PV)(r:Bool)(h m:List dd)(o p:List (List dd)),lr P eqF (fs.map (·.type)) j k=some r->fs.all (fun f=>f.name != "_")=true->
 (∀(i:Nat)(f:eb),fs[i]?=some f->f.offset=h.length+(l.take i).sum)->bA P w ad l j o->bA P w ad l k p->h.length=m.length->
 X.toList=h++o.flatten->Y.toList=m++p.flatten->(gt d X Y fs).run P w=.ok r w
 |[],l,j,k,r,h,m,o,p,e,_,_,_,_,_,_,_=>by
  cases j<;>cases k<;>simp[lr]at e;subst e;simp[gt]
 |f::fs,l,j,k,r,h,m,o,p,e,hn,u,hx,J,z,s,hY=>by
  cases j with
  |nil=>simp[lr]at e
  |cons a j=>
   cases k with
   |nil=>simp[lr]at e
   |cons b k=>
    cases l with
    |nil=>simp[bA]at hx
    |cons n l=>
     simp only[hX,lr]at e
     split at e
     case isFalse=>simp at e
     rename_i hk
     split at e
     case h_2=>simp at e
     rename_i r1 L C D;simp at e;subst e;obtain⟨c,cs,rfl,hc,t,I⟩:=Az hx;obtain⟨c',q,rfl,E,G,K⟩:=Az J;simp only[List.all_cons,ck,bne_iff_ne]at hn;have v:f.offset=h.length:=by simpa using u 0 f s_
     obtain⟨x,B,N⟩:=vh hk.1 hc (pre:=h) (post:=cs.flatten) (cs:=X) (by rw[s];simp);obtain⟨y,y1,y2⟩:=vh hk.2 E (pre:=m) (post:=q.flatten) (cs:=Y) (by rw[hY];simp);have e1:=A _ _ _ _ C hk.1 hk.2 x y N y2;rw[<-v]at B;rw[<-z,<-v]at y1;have M:=Of A fs l j k L (h++c) (m++c') cs q D hn.2 (by
      intro i g H;have:=u (i+1) g (by simpa using H);rw[this,kc,kL,hU,t];omega) I K (by simp[z,t,G]) (by rw[s];simp) (by rw[hY];simp)
     simp only[gt,hn.1,ne_eq,not_false_eq_true,if_true,hE,B,y1,e1,hC];cases r1 with
     |false=>simp
     |true=>simpa using M
theorem Lg{eqF:da->PV->PV->Option Bool}{d:Nat}{e:da}(u:∀a b r,eqF e a b=some r->∀x y,aH P w ad a x->aH P w ad b y->(gi d e x y).run P w= .ok r w){X Y:Array dd}:
 ∀(n k:Nat)(g h:List PV)(r:Bool)(i j:List dd)(l m:List (List dd)),lr P eqF (hW n e) g h=some r->
 bA P w ad (hW n (P.cellsOf e)) g l->bA P w ad (hW n (P.cellsOf e)) h m->i.length=k*P.cellsOf e->j.length=k*P.cellsOf e->
 X.toList=i++l.flatten->Y.toList=j++m.flatten->(gx d e (P.cellsOf e) X Y (kO k n)).run P w=.ok r w
 |0,k,g,h,r,i,j,l,m,f,_,_,_,_,_,_=>by
  cases g<;>cases h<;>simp[lr]at f;subst f;simp[gx]
 |n+1,k,g,h,r,i,j,l,m,f,hx,t,q,s,p,hY=>by
  cases g with
  |nil=>simp[i5,lr]at f
  |cons a g=>
   cases h with
   |nil=>simp[i5,lr]at f
   |cons b h=>
    rw[i5]at f hx t;simp only[lr]at f
    split at f
    case isFalse=>simp at f
    rename_i hk
    split at f
    case h_2=>simp at f
    rename_i r1 G z A;simp at f;subst f;obtain⟨c,cs,rfl,hc,C,E⟩:=Az hx;obtain⟨c',o,rfl,B,D,F⟩:=Az t;obtain⟨x,v,I⟩:=vh hk.1 hc (pre:=i) (post:=cs.flatten) (cs:=X) (by rw[p];simp);obtain⟨y,y1,y2⟩:=vh hk.2 B (pre:=j) (post:=o.flatten) (cs:=Y) (by rw[hY];simp);have e1:=u _ _ _ z x y I y2;rw[q]at v;rw[s]at y1;have H:=Lg u n (k+1) g h G (i++c) (j++c') cs o A E F (by rw[hU,q,C,ls]) (by rw[hU,s,D,ls]) (by rw[p];simp) (by rw[hY];simp);rw[kv];simp only[gx,hE,v,y1,e1,hC];cases r1 with
    |false=>simp
    |true=>simpa using H
theorem Di:∀(n:Nat)(T:da)(v v':PV)(r:Bool),jz P n T v v'=some r->∀x y,aH P w ad v x->aH P w ad v' y->∀d,n<=d->(gi d T x y).run P w=.ok r w
 |0,_,_,_,_,h,_,_,_,_,_,_=>by simp[jz]at h
 |n+1,T,v,v',r,h,x,y,hx,g,d,L=>by
  obtain⟨d,rfl⟩:∃e,d=e+1:=⟨d-1,o_⟩
  unfold jz at h
  split at h
  ·rename_i a b c;simp at h;subst h;simp only[aH]at hx g;subst hx;subst g;simp[gi,db c]
  ·rename_i k0 k a M b c
   split at h
   case isFalse=>simp at h
   rename_i hk;subst hk;simp at h;subst h;simp only[aH]at hx g;subst hx;subst g;exact run_equalIn_int w d T k k0 a b c
  ·rename_i a b c;simp at h;subst h;simp only[aH]at hx g;obtain⟨s,rfl,hs⟩:=hx;obtain⟨t,rfl,H⟩:=g;rw[run_equalIn_string w d T s t c,bytes_beq,hs,H];rfl
  ·rename_i fs u A u' B c
   split at h
   case isFalse=>simp at h
   rename_i hc;obtain⟨hk,rfl,G,E⟩:=hc;simp only[aH]at hx g;obtain⟨l,j,k1,k2,rfl⟩:=hx;obtain⟨D,o,k3,k4,rfl⟩:=g;rw[k1]at k3;cases k3;obtain⟨K,D,s1,s2,q,z,N,I⟩:=zG (P:=P) (T:=T) (u:=u') (n:=fs.size) (by unfold fp;rw[hk,c]);rw[c]at s1;cases s1;rw[k1]at z;cases z;have C:P.fieldsOf T=fs:=by simp[Program.fieldsOf,c]
   rw[run_equalIn_struct w d T _ _ (by rw[C];exact c) G,C];refine Of (eqF:=jz P n) (fun F a b r p _ _ x y hx g=>Di n F a b r p x y hx g d o_) fs.toList l A B r [] [] j o h E ?_ k2 k4 rfl s_ s_;intro i f hf;have hi:i<fs.size:=by
    have:=(hR.1 hf).1;simpa using this
   obtain⟨J,g1,g2,_⟩:=I i hi;rw[b4,g1]at hf;cases hf;simpa using g2
  ·rename_i m e u A u' B c
   split at h
   case isFalse=>simp at h
   rename_i hc;obtain⟨hk,rfl,hi⟩:=hc;simp only[aH]at hx g;obtain⟨l,j,k1,k2,rfl⟩:=hx;obtain⟨D,o,k3,k4,rfl⟩:=g;rw[k1]at k3;cases k3;obtain⟨e',s1,s2,q,z⟩:=xB (P:=P) (T:=T) (u:=u') (n:=m) (by unfold iO;rw[hk,c]);rw[c]at s1;cases s1;rw[k1]at q;cases q;obtain⟨i,hi⟩:=l0.1 hi;rw[run_equalIn_array w d _ _ c hi,List.range_eq_range'];exact Lg (eqF:=jz P n) (fun a b r p x y hx g=>Di n e a b r p x y hx g d o_) m 0 A B r [] [] j o h k2 k4 s_ s_ s_ s_
  ·simp at h
end
section
variable{P:c9}{w:dp}{ad ai:Nat->Prop}{β:Bd}{H:ak}
variable{o:Oper}{ρ:dg->AV}{base:Nat}
theorem H5{d:dz}{T C:da}{x y:dg}{r:Bool}{K:PV->Prop}{l:List (Nat×Obj)}(k:o.op= .binOp d T x y C)
 (D:d=.eql/\K (.bool r)\/d=.neq/\K (.bool !r))
 (I:∀(H:ak)(w:dp)(ad ai:Nat->Prop)(β:Bd)(a b:dd),cK P w ad β H ai->(∀p∈l,H[p.1]?=some p.2)->aD P w ad β H (ρ x) a->aD P w ad β H (ρ y) b->(gj T a b).run P w=.ok r w/\
  ((∃x,a=.bool x)\/(∃x,a=.agg x)\/(∃p n c,a=.slice p n c)\/(∃m,a=.map m)\/a=.nilFunc\/(∃f x y,a=.func f x y)\/(∃p,a=.pointer p)\/(a=.nilIface/\uf y=true))/\(∀u v,a=.agg u->b=.agg v->P.eqGuardType P.depth T=false)):
 ∃v,K v/\bM P o ρ base {v:=.p v,aA:=l}:=by
 have key:∀v,K v->(∀(w:dp)(a b:dd),(gj T a b).run P w= .ok r w->((∃x,a= .bool x)\/(∃x,a= .agg x)\/(∃p n c,a= .slice p n c)\/(∃m,a= .map m)\/a= .nilFunc\/(∃f x y,a= .func f x y)\/(∃p,a= .pointer p)\/a= .nilIface)->
  ∃q,v=.bool q/\(binOp d T a b).run P w=.ok (.bool q) w)->∃v,K v/\bM P o ρ base {v:=.p v,aA:=l}:=by
  intro v J hq;refine⟨v,J,bM.same fun H w ad ai β s G t aA=>?_⟩;obtain⟨r1,z,A⟩:=I H w ad ai β _ _ G aA (t x (by simp[k,gg])).1 (t y (by simp[k,gg])).1;obtain⟨q,rfl,F⟩:=hq w _ _ r1 (by rcases z with h|h|h|h|h|h|h|h<;>simp[h]);refine⟨.bool q,?_,by simp[aD,aH],by simp[aI]⟩;simp only[dq,k];refine gI ?_;have E:(eqGuard d T x y (s x) (s y)).run P w=.ok () w:=by
   rcases z with⟨p,e⟩|⟨p,e⟩|⟨p,n,c,e⟩|⟨m,e⟩|e|⟨f,L,M,e⟩|⟨p,e⟩|⟨e,hc⟩
   all_goals rw[e]at A⊢
   case inr.inl=>
    cases hy:s y with
    |agg B=>
     exact run_eqGuard_agg w d T x y p B (A p B rfl hy)
    |_=>cases d<;>rfl
   case inr.inr.inr.inr.inr.inr.inr=>
    cases y<;>simp[uf]at hc;unfold eqGuard;cases d<;>simp<;>(split<;>simp_all)
   all_goals (cases d<;>rfl)
  simp[E,F]
 rcases D with⟨rfl,j⟩|⟨rfl,j⟩
 ·exact key _ j fun w a b g i=>⟨_,rfl,(Ob g i).1⟩
 ·exact key _ j fun w a b g i=>⟨_,rfl,(Ob g i).2⟩
theorem C6(T:da)(a b:dd):∃d,9<=d+1/\gj T a b=gi (d+1) T a b:=⟨9999,o_,rfl⟩
theorem O8{T:da}{c:Bool}{b:AV}{k:yN}(h:eh P T c b=some k):
 (k=.ptr/\b=.p .gL/\∃e,P.underlying T=some (.pointer e))\/(k=.slice/\b=.p .aM/\∃e,P.underlying T=some (.slice e))\/
 (k=.map/\b=.p .gB/\∃e f,P.underlying T=some (.map e f))\/(k=.func/\b=.p .iV/\∃e f g,P.underlying T=some (.func e f g))\/(k=.iface/\b=.p .iK/\c=true/\∃m,P.underlying T=some (.interface m)):=by
 unfold eh at h
 split at h<;>first
  |(split at h
    ·rename_i a;simp at h;subst h;simp[a]
    ·simp at h)
  |simp at h
theorem aOH{T:da}{c:Bool}{H0:ak}{a b:AV}{r:Bool}{k:yN}(hk:eh P T c b=some k)(h:dC H0 k a=some r){l q:dd}(aA:∀p∈eX H0 a,H[p.1]?=some p.2)(i:aD P w ad β H a l)(B:aD P w ad β H b q):
 (gj T l q).run P w=.ok r w/\((∃x,l=.bool x)\/(∃x,l=.agg x)\/(∃p n c,l=.slice p n c)\/(∃m,l=.map m)\/l=.nilFunc\/(∃f x y,l=.func f x y)\/(∃p,l=.pointer p)\/(l=.nilIface/\c=true))/\(∀u v,l=.agg u->q=.agg v->P.eqGuardType P.depth T=false):=by
 obtain⟨d,_,G⟩:=C6 T l q;rw[G];rcases O8 hk with⟨rfl,rfl,e,j⟩|⟨rfl,rfl,e,j⟩|⟨rfl,rfl,e,f,j⟩|⟨rfl,rfl,e,f,g,j⟩|⟨rfl,rfl,F,m,j⟩
 all_goals simp only[aD,aH]at B
 all_goals subst B
 ·cases a<;>simp only[dC]at h
  case p v=>
   cases v<;>simp only at h<;>simp at h
   all_goals subst h
   all_goals simp only[aD,aH]at i
   ·subst i;simp[gi,db j]
   ·obtain⟨_,_,_,_,_,_,rfl⟩:=i;simp[gi,db j]
  case ptr A path=>
   simp only[aD,cg,cG]at i;obtain⟨_,_,_,_,rfl,_⟩:=i
   split at h
   ·simp at h;subst h;simp[gi,db j]
   ·simp at h
  all_goals simp at h
 ·cases a<;>simp only[dC]at h
  case p v=>
   cases v
   case seq o=>
    cases o with
    |nil=>simp at h
    |cons e o=>
     simp at h;subst h;simp only[aD,aH]at i;rcases i with⟨I,_⟩|⟨_,_,_,_,_,_,_,_,_,_,_,rfl⟩
     ·cases I
     ·simp[gi,db j]
   all_goals simp only at h
   all_goals simp at h
   all_goals subst h
   all_goals simp only[aD,aH]at i
   ·subst i;simp[gi,db j]
   ·obtain⟨_,_,_,_,_,_,_,_,_,_,_,_,rfl⟩:=i;simp[gi,db j]
  case sl A aF an off len=>
   simp only[aD,cg,cG]at i;simp only[eX]at aA
   split at h
   case h_2=>simp at h
   rename_i z L K o s;rw[s]at aA;have t:=aA _ (km.2 rfl)
   split at h
   case isFalse=>simp at h
   rename_i hc;obtain⟨rfl,rfl⟩:=hc;obtain⟨_,D,E⟩:=i.2 z o t
   by_cases hn:eU z o
   ·rw[D hn];have:r=true:=by simp at h;rw[<-h];simp[hn.1,hn.2]
    subst this;simp[gi,db j]
   ·rw[E hn];have:r=false:=by
     simp at h;rw[<-h];unfold eU at hn
     by_cases C:z.gr=true
     ·have J:o≠[]:=fun h=>hn ⟨C,h⟩;simp[J]
     ·simp[C]
    subst this;simp[gi,db j]
  all_goals simp at h
 ·cases a<;>simp only[dC]at h
  case p v=>
   cases v<;>simp only at h<;>simp at h
   all_goals subst h
   all_goals simp only[aD,aH]at i
   ·subst i;simp[gi,db j]
   ·obtain⟨_,_,_,_,_,_,rfl⟩:=i;simp[gi,db j]
  case map A=>
   simp only[aD,cg,cG]at i;simp only[eX]at aA
   split at h
   case h_2=>simp at h
   rename_i fz o s;rw[s]at aA;have t:=aA _ (km.2 rfl);rw[i.2.1 ⟨_,t,rfl⟩];simp at h;subst h;simp[gi,db j]
  all_goals simp at h
 ·cases a<;>simp only[dC]at h
  case p v=>
   cases v<;>simp only at h<;>simp at h
   all_goals subst h
   all_goals simp only[aD,aH]at i
   ·obtain⟨_,_,_,_,rfl⟩:=i;simp[gi,db j]
   ·subst i;simp[gi,db j]
  case func f first jy=>
   simp only[aD]at i;obtain⟨_,_,_,_,rfl⟩:=i;simp at h;subst h;simp[gi,db j]
  all_goals simp at h
 ·cases a<;>simp only[dC]at h
  case p v=>
   cases v<;>simp only at h<;>simp at h
   all_goals subst h
   all_goals simp only[aD,aH]at i
   subst i;simp[gi,db j,F]
  all_goals simp at h
theorem aOX{i:dz}{T s:da}{x y:dg}{K:PV->Prop}{H0:ak}(j:o.op= .binOp i T x y s)(h:ng P i T (uf y) H0 (ρ x) (ρ y) K):
 ∃v,K v/\bM P o ρ base {v:=.p v,aA:=eX H0 (ρ x)}:=by
 unfold ng at h
 split at h
 ·rename_i k a C b hx g;exact aOZ j hx g h.1 h.2 _
 ·rename_i a b hx g;exact aO4 j hx g h _
 ·rename_i a b hx g;obtain⟨z,h⟩:=h;have m:=ZK z;refine H5 (r:=a==b) j ?_ ?_
  ·split at h
   ·exact .inl ⟨rfl,h⟩
   ·exact .inr ⟨rfl,h⟩
   ·exact h.elim
  ·intro H w ad ai β n q e aA f c;rw[hx]at f;rw[g]at c;simp only[aD,aH]at f c;subst f;subst c;obtain⟨d,_,l⟩:=C6 T (.bool a) (.bool b);rw[l];exact⟨by simp[gi,db m],.inl ⟨_,rfl⟩,fun u v m _=>by cases m⟩
 ·rename_i u fs u' t hx g;obtain⟨B,h⟩:=h;obtain⟨r,e,c⟩:∃r,jz P 9 T (.st u fs) (.st u' t)=some r/\(i=.eql/\K (.bool r)\/i=.neq/\K (.bool !r)):=by
   split at h
   ·rename_i r e;exact⟨r,e,.inl ⟨rfl,h⟩⟩
   ·rename_i r e;exact⟨r,e,.inr ⟨rfl,h⟩⟩
   ·exact h.elim
  refine H5 (r:=r) j c ?_;intro H w ad ai β n q _ aA f c;rw[hx]at f;rw[g]at c;simp only[aD]at f c;refine⟨?_,?_,fun u v _ _=>by simpa[vR]using B⟩
  ·obtain⟨d,A,l⟩:=C6 T n q;rw[l];exact Di 9 T _ _ r e _ _ f c (d+1) A
  ·simp only[aH]at f;obtain⟨_,_,_,_,rfl⟩:=f;exact .inr (.inl ⟨_,rfl⟩)
 ·rename_i hx g
  split at h
  case h_2=>exact h.elim
  rename_i k hk;obtain⟨r,e,c⟩:∃r,dC H0 k (ρ x)=some r/\(i=.eql/\K (.bool r)\/i=.neq/\K (.bool !r)):=by
   split at h
   ·rename_i r e;exact⟨r,e,.inl ⟨rfl,h⟩⟩
   ·rename_i r e;exact⟨r,e,.inr ⟨rfl,h⟩⟩
   ·exact h.elim
  exact H5 (r:=r) j c fun H w ad ai β n q _ aA f c=>aOH hk e aA f c
end
section
variable{P:c9}{w:dp}{ad ai:Nat->Prop}{β:Bd}{H:ak}
variable{o:Oper}{ρ:dg->AV}{base:Nat}
theorem rR{c:dg->dd}:∀(l:List dg),(∀x∈l,aD P w ad β H (ρ x) (c x)/\aI (aQ H) (ρ x))->bX P w ad β H (l.map ρ) (l.map c)/\bk (aQ H) (l.map ρ)
 |[],_=>by simp[bX,bk]
 |x::l,h=>by
  have a:=h x s_;have b:=rR l (fun y d=>h y (by simp[d]));simp only[hX,bX,bk];exact⟨⟨_,_,rfl,a.1,b.1⟩,a.2,b.2⟩
theorem C0{H0:ak}:∀(l:List AV){j:List PV}{aA aW:List (Nat×Obj)}{H:ak}{ad:Nat->Prop}{vs:List dd},gZ H0 l=some (j,aA,aW)->cK P w ad β H ai->bX P w ad β H l vs->bk (aQ H) l->
 (∀p∈aA,∃f fz t,p.2=.box fz t/\H[p.1]?=some (.box f t))->∃aJ,cF P ai ad w β H aJ w β (bu H aW)/\bY P w aJ j vs/\∀p∈aW,p.1<H0.length/\p.2≠.hole
 |[],j,aA,aW,H,ad,vs,h,i,e,_,_=>by
  simp[gZ]at h;obtain⟨rfl,rfl,rfl⟩:=h;simp only[bX]at e;exact⟨ad,cF.refl i,by simpa[bY]using e,s_⟩
 |a::l,j,aA,aW,H,ad,vs,h,i,e,d,m=>by
  simp only[bX]at e;obtain⟨y,x,rfl,n,u⟩:=e;simp only[bk]at d;cases a with
  |p v=>
   simp only[gZ]at h
   split at h
   case h_2=>simp at h
   rename_i G B E k;simp at h;obtain⟨rfl,rfl,rfl⟩:=h;obtain⟨aJ,q1,o,q⟩:=C0 l k i u d.2 m;simp only[aD]at n;exact⟨aJ,q1,by simp only[bY];exact⟨y,x,rfl,aH.mono q1.cq (fun _ _=>rfl) _ _ n,o⟩,q⟩
  |ptr b path=>
   cases path with
   |cons _ _=>simp[gZ]at h
   |nil=>
    simp only[gZ]at h
    split at h
    case h_2=>simp at h
    rename_i fz t G B E C k;simp at h;obtain⟨rfl,rfl,rfl⟩:=h;obtain⟨f,J,K,e1,e2⟩:=m (b,.box fz (.p t)) s_;cases e1;have D:mN H (.ptr b [])=some (.cW t,H.set b (.box true (.p t))):=by
     simp only at e2;simp[mN,e2,nC]
    obtain⟨I,g,F⟩:=PN D i n d.1;have A:b<H.length:=(hR.1 e2).1;obtain⟨z,q1,o,q⟩:=C0 l k g.rel (bX.mono g.cq (fun _ _=>rfl) g.step _ _ d.2 u) (bk.mono g.iS _ d.2) (by
     intro p c;obtain⟨f2,r,t2,g1,g2⟩:=m p (by simp[c])
     by_cases s:b=p.1
     ·rw[<-s]at g2⊢;simp only at e2;rw[e2]at g2;cases g2;exact⟨true,r,_,g1,by rw[hT A]⟩
     ·exact⟨f2,r,t2,g1,by rw[h5 s];exact g2⟩)
    refine⟨z,by simpa only[bu]using g.trans q1,?_,?_⟩
    ·simp only[bY];exact⟨y,x,rfl,aH.mono q1.cq (fun _ _=>rfl) _ _ F,o⟩
    ·intro p c;rcases hV.1 c with rfl|c
     ·exact⟨(hR.1 C).1,s_⟩
     ·exact q p c
  |_=>simp[gZ]at h
theorem ann{f:dl}{e d:Array dg}(G:o.op= .makeFunc (.func f) e d):
 (∀a b,fy (e.toList.map ρ)=some a->fy (d.toList.map ρ)=some b->bM P o ρ base {v:=.p (.func f a b)})/\
 bM P o ρ base {v:=.func f (e.toList.map ρ) (d.toList.map ρ)}/\
 (∀(H0:ak) a b aA aW,gZ H0 (e.toList.map ρ)=some (a,[],[])->gZ H0 (d.toList.map ρ)=some (b,aA,aW)->bM P o ρ base {v:=.p (.func f a b),aA,aW}/\(∀p∈aA,H0[p.1]?=some p.2)/\(∀p∈aW,p.1<H0.length/\p.2≠.hole)):=by
 have j:∀x,x∈e.toList\/x∈d.toList->x∈o.op.operands:=by
  intro x hx;rw[G];simp only[gg,Array.mem_append];simpa using hx
 have z:∀(c:dg->dd)(w:dp),(dq c o).run P w=.ok (.value (.func (.func f) (e.toList.map c).toArray (d.toList.map c).toArray)) w:=by
  intro c w;simp only[dq,G];refine gI ?_;have m:(e.toList.map c).toArray=e.map c:=by apply b2;simp
  have n:(d.toList.map c).toArray=d.map c:=by apply b2;simp
  rw[m,n];simp[Instr.makeFunc]
 refine⟨?_,?_,?_⟩
 ·intro a b y q;refine bM.same fun H w ad ai β c B i _=>⟨_,z c w,?_,by simp[aI]⟩
  obtain⟨m,_⟩:=rR e.toList (fun x hx=>i x (j x (.inl hx)));obtain⟨n,_⟩:=rR d.toList (fun x hx=>i x (j x (.inr hx)));rw[po y]at m;rw[po q]at n;simp only[aD,aH];exact⟨_,_,l9.1 m,l9.1 n,rfl⟩
 ·refine bM.same fun H w ad ai β c B i _=>⟨_,z c w,?_,?_⟩
  ·simp only[aD];exact⟨_,_,(rR e.toList (fun x hx=>i x (j x (.inl hx)))).1,(rR d.toList (fun x hx=>i x (j x (.inr hx)))).1,rfl⟩
  ·simp only[aI];exact⟨(rR e.toList (fun x hx=>i x (j x (.inl hx)))).2,(rR d.toList (fun x hx=>i x (j x (.inr hx)))).2⟩
 ·intro H0 a b aA aW y q;have F:∀p∈aA,H0[p.1]?=some p.2/\∃fz t,p.2=.box fz t:=by
   have:∀(l:List AV)(b:List PV)(aA aW:List (Nat×Obj)),gZ H0 l=some (b,aA,aW)->∀p∈aA,H0[p.1]?=some p.2/\∃fz t,p.2=.box fz t:=by
    intro l
    induction l with
    |nil=>intro b aA aW h;simp[gZ]at h;obtain⟨rfl,rfl,rfl⟩:=h;simp
    |cons x l s=>
     intro b aA aW h;cases x with
     |p v=>
      simp only[gZ]at h
      split at h
      case h_2=>simp at h
      rename_i D r C k;simp at h;obtain⟨rfl,rfl,rfl⟩:=h;exact s _ _ _ k
     |ptr L path=>
      cases path with
      |cons _ _=>simp[gZ]at h
      |nil=>
       simp only[gZ]at h
       split at h
       case h_2=>simp at h
       rename_i fz t D r C A k;simp at h;obtain⟨rfl,rfl,rfl⟩:=h;intro p g;rcases hV.1 g with rfl|g
       ·exact⟨A,_,_,rfl⟩
       ·exact s _ _ _ k p g
     |_=>simp[gZ]at h
   exact this _ _ _ _ q
  have M:∀p∈aW,p.1<H0.length/\p.2≠.hole:=by
   have:∀(l:List AV)(b:List PV)(aA aW:List (Nat×Obj)),gZ H0 l=some (b,aA,aW)->∀p∈aW,p.1<H0.length/\p.2≠.hole:=by
    intro l
    induction l with
    |nil=>intro b aA aW h;simp[gZ]at h;obtain⟨rfl,rfl,rfl⟩:=h;simp
    |cons x l s=>
     intro b aA aW h;cases x with
     |p v=>
      simp only[gZ]at h
      split at h
      case h_2=>simp at h
      rename_i D r C k;simp at h;obtain⟨rfl,rfl,rfl⟩:=h;exact s _ _ _ k
     |ptr L path=>
      cases path with
      |cons _ _=>simp[gZ]at h
      |nil=>
       simp only[gZ]at h
       split at h
       case h_2=>simp at h
       rename_i fz t D r C A k;simp at h;obtain⟨rfl,rfl,rfl⟩:=h;intro p g;rcases hV.1 g with rfl|g
       ·exact⟨(hR.1 A).1,s_⟩
       ·exact s _ _ _ k p g
     |_=>simp[gZ]at h
   exact this _ _ _ _ q
  refine⟨?_,fun p g=>(F p g).1,M⟩;intro H w ad ai β c B i r _;obtain⟨m,r1⟩:=rR e.toList (fun x hx=>i x (j x (.inl hx)));obtain⟨n,J⟩:=rR d.toList (fun x hx=>i x (j x (.inr hx)));obtain⟨Q,u,N,_⟩:=C0 _ y B m r1 s_;simp only[bu]at u;obtain⟨K,q1,O,_⟩:=C0 _ q u.rel (bX.mono u.cq (fun _ _=>rfl) u.step _ _ J n) J (by
   intro p g;obtain⟨_,fz,t,I⟩:=F p g;have E:=r p g;rw[I]at E;exact⟨fz,fz,t,I,E⟩)
  simp only[newAt,hZ];refine⟨_,_,w,β,K,z c w,.inl rfl,u.trans q1,?_,by simp[aI]⟩;simp only[aD,aH];exact⟨_,_,bY.mono q1.cq (fun _ _=>rfl) _ _ N,O,rfl⟩
theorem F4{x:dg}(d:o.op=.nilCheck x)(h:(∃b p,ρ x=.ptr b p)\/(∃b v e i p,ρ x=.cM b v e i p)\/∃t,ρ x=.p (.cW t)):bM P o ρ base {v:=ρ x}:=by
 refine bM.same fun H w ad ai β f l k aA=>?_;have c:=k x (by simp[d,gg]);refine⟨f x,?_,c⟩;have j:∃a,f x=.pointer (some a):=by
  rcases h with⟨b,p,hx⟩|⟨b,v,e,i,p,hx⟩|⟨t,hx⟩
  ·have c:=c.1;rw[hx]at c;simp only[aD,cg,cG]at c;obtain⟨_,_,_,_,h,_⟩:=c;exact⟨_,h⟩
  ·have c:=c.1;rw[hx]at c;simp only[aD,cg,cG]at c;obtain⟨_,_,_,_,h,_⟩:=c;exact⟨_,h⟩
  ·have c:=c.1;rw[hx]at c;simp only[aD,aH]at c;obtain⟨_,_,_,_,_,_,h⟩:=c;exact⟨_,h⟩
 obtain⟨a,g⟩:=j;simp[dq,d,g]
end
section
variable{P:c9}{w:dp}{ad ai:Nat->Prop}{β:Bd}{H:ak}
variable{o:Oper}{ρ:dg->AV}{base:Nat}
open Go.MapKept
def qE:PV->Prop
 | .st _ _=>False
 |_=>True
theorem QL{T:da}{key:PV}(h:qE key)(k:PV):qR P T key k=ln key k:=by
 cases key<;>first
  |exact h.elim
  |rfl
theorem ZR{T:da}{key:PV}(h:qE key)(a:List (PV×PV)):pB P T a key=gw P T a key:=by
 cases key<;>first
  |exact h.elim
  |rfl
theorem N9{T:da}{key:PV}{b:dd}(h:iw P T key=true)(c:qE key)(a:aH P w ad key b):∃d,P.underlying T=some d/\IsKey d b:=by
 unfold iw at h
 split at h
 ·split at h
  ·rename_i e;simp at h;subst h;simp only[aH]at a;subst a;exact⟨_,e,by simp[IsKey]⟩
  ·simp at h
 ·simp only[aH]at a;obtain⟨bs,rfl,_⟩:=a;exact⟨_,Cy h,by simp[IsKey]⟩
 ·exact c.elim
 ·simp at h
theorem RV{T:da}{d:TypeDesc}(j:P.underlying T=some d){key g:PV}{i v':dd}{r:Bool}(h:iw P T key=true)(p:qE key)(c:ln key g=some r)(e:aH P w ad key i)(f:aH P w ad g v'):
 fm d i v'=some r/\(r=true->i=v'):=by
 unfold iw at h
 split at h
 ·split at h
  ·rename_i k;simp at h;subst h;rw[j]at k;cases k;cases g<;>simp only[ln]at c<;>try (simp at c;done)
   split at c
   ·rename_i hk;subst hk;simp at c;subst c;simp only[aH]at e f;subst e;subst f;simp[fm]
   ·simp at c
  ·simp at h
 ·rename_i hs;have:=Cy h;rw[j]at this;cases this;cases g<;>simp only[ln]at c<;>try (simp at c;done)
  simp at c;subst c;simp only[aH]at e f;obtain⟨a,rfl,e1⟩:=e;obtain⟨b,rfl,e2⟩:=f;subst e1;subst e2;have n:(kb (fun x:UInt8=>x.toNat) a.data.toList=kb (fun x:UInt8=>x.toNat) b.data.toList)↔a=b:=by
   constructor
   ·intro h;have:=FY h;apply ByteArray.ext;apply b2;exact this
   ·intro h;rw[h]
  by_cases hc:a=b
  ·subst hc;simp[fm,ge]
  ·have l:¬(kb (fun x:UInt8=>x.toNat) a.data.toList=kb (fun x:UInt8=>x.toNat) b.data.toList):=fun h=>hc (n.1 h);have m:(a==b)=false:=by
    cases o:(a==b)with
    |false=>rfl
    |true=>exact(hc ((ge a b).1 o)).elim
   simp[fm,l,m]
 ·exact p.elim
 ·simp at h
theorem Hh{T:da}{d:TypeDesc}(o:P.underlying T=some d){key:PV}{g:dd}(hk:iw P T key=true)(m:qE key)(l:aH P w ad key g):∀(b:List (PV×PV))(a:List dx)(i:Nat)(r:Option PV),dB P w ad b a->gw P T b key=some r->
 (r=none/\fd d g a i=some none)\/∃v j e,r=some v/\fd d g a i=some (some (i+j,e.val))/\a[j]?=some e/\aH P w ad v e.val/\e.key=g/\
  (∀(x:PV)(k:dd),aH P w ad x k->dB P w ad (gR b key x) (a.modify j fun e=>{e with key:=g,val:=k}))
 |[],a,i,r,f,h=>by
  simp only[dB]at f;simp[gw]at h;subst f;subst h;exact .inl ⟨rfl,rfl⟩
 |(s,v')::b,a,i,r,f,h=>by
  simp only[dB]at f;obtain⟨e,rest,rfl,n,p,q⟩:=f;simp only[gw,QL m]at h
  split at h
  ·rename_i c;simp at h;subst h;obtain⟨g1,g2⟩:=RV o hk m c l n;refine .inr ⟨v',0,e,rfl,by simp[fd,g1],rfl,p,(g2 rfl).symm,fun x k hx=>?_⟩;simp only[gR,c,if_true];simp only[dB];exact⟨_,rest,rfl,l,hx,q⟩
  ·rename_i c;obtain⟨g1,g2⟩:=RV o hk m c l n;rcases Hh o hk m l b rest (i+1) r q h with⟨rfl,f1⟩|⟨v,j,e',rfl,f1,f2,f3,f4,f5⟩
   ·exact .inl ⟨rfl,by simp[fd,g1,f1]⟩
   ·refine .inr ⟨v,j+1,e',rfl,by simp[fd,g1,f1];omega,by simpa using f2,f3,f4,fun x k hx=>?_⟩;simp only[gR,c];rw[if_neg s_];simp only[dB];exact⟨e,_,by simp[List.modify_succ_cons],n,p,f5 x k hx⟩
  ·simp at h
theorem OA{X:Array dd}{v:da->PV->PV->Option Bool}(e:Bool)(n:Nat):
 ∀(fs:List eb)(l:List Nat)(b:List PV)(r:Bool)(d:List dd)(o:List (List dd)),lr P v (fs.map (·.type)) b b=some r->(∀f∈fs,f.name≠ "_" /\xK P f.type=true)->
 (∀(i:Nat)(f:eb),fs[i]?=some f->f.offset=d.length+(l.take i).sum)->bA P w ad l b o->
 X.toList=d++o.flatten->(forIn fs mb (fun f _=>if f.name≠ "_" then(do
  let x<-part f.type X f.offset
  fl e (n+1) f.type x
  pure (ForInStep.yield mb))else pure (ForInStep.yield mb):eb->PUnit->Sem (ForInStep PUnit))).run P w=.ok mb w
 |[],l,b,r,d,o,_,_,_,_,_=>by simp
 |f::fs,l,b,r,d,o,h,hn,s,hx,q=>by
  cases b with
  |nil=>simp[lr]at h
  |cons a b=>
   cases l with
   |nil=>simp[bA]at hx
   |cons m l=>
    simp only[hX,lr]at h
    split at h
    case isFalse=>simp at h
    rename_i hk
    split at h
    case h_2=>simp at h
    rename_i r1 E G y;obtain⟨c,cs,rfl,hc,z,D⟩:=Az hx;obtain⟨B,p⟩:=hn f s_;have C:f.offset=d.length:=by simpa using s 0 f s_
    obtain⟨x,t,H⟩:=vh hk.1 hc (pre:=d) (post:=cs.flatten) (cs:=X) (by rw[q];simp);rw[<-C]at t;have u:(fl e (n+1) f.type x).run P w=.ok () w:=by
     unfold xK at p;unfold fl
     split at p
     ·rename_i k j;simp[db j]
     ·rename_i j;simp[db j]
     ·rename_i j;simp[db j]
     ·cases p
    have F:=OA e n fs l b E (d++c) cs y (fun f hf=>hn f (by simp[hf])) (by
     intro i g A;have:=s (i+1) g (by simpa using A);rw[this,kc,kL,hU,z];omega) D (by rw[q];simp)
    rw[List.forIn_cons];simp only[B,ne_eq,not_false_eq_true,if_true,hE,t,u,hC,hF];exact F
theorem Zn{T:da}{cz:Array eb}{u:Nat}{fs:List PV}{g:dd}(b:P.underlying T=some (.struct cz))(j:cz.toList.all (fun f=>f.name != "_" &&xK P f.type)=true)(a:(jz P 9 T (.st u fs) (.st u fs)).isSome=true)(d:aH P w ad (.st u fs) g)(e:Bool):
 (fl e 10000 T g).run P w=.ok () w:=by
 obtain⟨r,a⟩:=l0.1 a;unfold jz at a;simp only[b]at a
 split at a
 case isFalse=>simp at a
 rename_i hc;obtain⟨hk,-,-,-⟩:=hc;simp only[aH]at d;obtain⟨l,c,k1,k2,rfl⟩:=d;obtain⟨o,p,s1,s2,q,h,s,k⟩:=zG (P:=P) (T:=T) (u:=u) (n:=cz.size) (by unfold fp;rw[hk,b]);rw[b]at s1;cases s1;rw[k1]at h;cases h;have key:=OA (w:=w) (ad:=ad) (X:=c.flatten.toArray) e 9998 cz.toList l fs r [] c a (fun f hf=>by
  have:=h8.1 j f hf;simpa using this) (by
   intro i f hf;have hi:i<cz.size:=by
    have:=(hR.1 hf).1;simpa using this
   obtain⟨m,g1,g2,_⟩:=k i hi;rw[b4,g1]at hf;cases hf;simpa using g2) k2 s_
 unfold fl;simp only[hE,db b,hC];rw[<-Array.forIn_toList];rw[key];simp
theorem GN{T:da}{u:Nat}{fs:List PV}{g:dd}(p:aH P w ad (.st u fs) g):∀(k:List (PV×PV))(f:List dx)(i:Nat)(r:Option PV),dB P w ad k f->gw P T k (.st u fs)=some r->
 (r=none/\(fb T g f i).run P w=.ok none w/\∀x n born,aH P w ad x n->dB P w ad (gR k (.st u fs) x) (f++[{key:=g,val:=n,born}]))\/∃(v:PV)(j:Nat)(e:dx),r=some v/\(fb T g f i).run P w=.ok (some (i+j,e.val)) w/\aH P w ad v e.val
 |[],f,i,r,m,h=>by
  simp only[dB]at m;simp[gw]at h;subst m;subst h;refine .inl ⟨rfl,by simp[fb],fun x n born hx=>?_⟩;simp only[gR,dB];exact⟨_,[],rfl,p,hx,rfl⟩
 |(y,v')::k,f,i,r,m,h=>by
  simp only[dB]at m;obtain⟨e,rest,rfl,s,t,z⟩:=m;simp only[gw]at h;have q:∀b,qR P T (.st u fs) y=some b->(gj T g e.key).run P w=.ok b w/\ln (.st u fs) y=some b:=by
   intro b l;simp only[qR]at l
   split at l
   ·rename_i a c A hc;cases a<;>cases c<;>simp at l<;>subst l<;>
    ·obtain⟨d,B,hq⟩:=C6 T g e.key;rw[hq];exact⟨Di 9 T _ _ _ A _ _ p s _ B,hc⟩
   ·simp at l
  split at h
  ·rename_i o;simp at h;subst h;obtain⟨g1,g2⟩:=q _ o;exact .inr ⟨v',0,e,rfl,by simp[fb,g1],t⟩
  ·rename_i o;obtain⟨g1,g2⟩:=q _ o;rcases GN p k rest (i+1) r z h with⟨rfl,f1,f2⟩|⟨v,j,e',rfl,f1,f3⟩
   ·refine .inl ⟨rfl,by simp[fb,g1,f1],fun x n born hx=>?_⟩;simp only[gR,g2];rw[if_neg s_];simp only[dB];exact⟨e,_,rfl,s,t,f2 x n born hx⟩
   ·refine .inr ⟨v,j+1,e',rfl,?_,f3⟩;simp[fb,g1,f1];omega
  ·simp at h
theorem Hi{T:da}{cz:Array eb}(c:P.underlying T=some (.struct cz)){b:dd}{a:List dx}{f:Option (Nat×dd)}(h:(fb T b a 0).run P w=.ok f w):(fi T b a).run P w=.ok f w:=by
 unfold fi;simp only[hE,db c,hC];cases a with
 |nil=>
  simp only[fd];simpa[fb]using h
 |cons e es=>
  have:fd (.struct cz) b (e::es) 0=none:=by simp[fd,fm]
  rw[this];exact h
theorem Gk{T:da}{key:PV}(h:iw P T key=true)(a:¬qE key):∃u fs cz,key= .st u fs/\P.underlying T=some (.struct cz)/\cz.toList.all (fun f=>f.name != "_" &&xK P f.type)=true/\(jz P 9 T (.st u fs) (.st u fs)).isSome=true:=by
 cases key<;>first
  |exact(a trivial).elim
  |skip
 rename_i u fs;simp only[iw]at h
 split at h
 ·rename_i cz b;rw[ck]at h;exact⟨u,fs,cz,rfl,b,h.1,h.2⟩
 ·cases h
theorem Q9{T:da}{key:PV}{g:dd}(hk:iw P T key=true)(f:aH P w ad key g){b:List (PV×PV)}{a:List dx}{r:Option PV}(l:dB P w ad b a)(h:gw P T b key=some r):
 (∀e,(fl e 10000 T g).run P w=.ok () w)/\
 ((r=none/\(fi T g a).run P w=.ok none w)\/∃(v:PV)(j:Nat)(e:dx),r=some v/\(fi T g a).run P w=.ok (some (j,e.val)) w/\aH P w ad v e.val):=by
 by_cases i:qE key
 ·obtain⟨d,c,o⟩:=N9 hk i f;refine⟨fun e=>run_checkKey c o _ 9999,?_⟩;rcases Hh c hk i f b a 0 r l h with⟨rfl,f1⟩|⟨v,j,e,rfl,f1,f2,f3,f4,_⟩
  ·exact .inl ⟨rfl,run_findKey c f1⟩
  ·exact .inr ⟨v,0+j,e,rfl,run_findKey c f1,f3⟩
 ·obtain⟨u,fs,cz,rfl,k,m,n⟩:=Gk hk i;refine⟨fun e=>Zn k m n f e,?_⟩;rcases GN f b a 0 r l h with⟨rfl,f1,_⟩|⟨v,j,e,rfl,f1,f3⟩
  ·exact .inl ⟨rfl,Hi k f1⟩
  ·exact .inr ⟨v,0+j,e,rfl,Hi k f1,f3⟩
theorem Ox{T:da}{key x:PV}{g i:dd}(d:aH P w ad key g)(hx:aH P w ad x i)(born:Nat):∀(a:List (PV×PV))(c:List dx),qE key->dB P w ad a c->gw P T a key=some none->dB P w ad (gR a key x) (c++[{key:=g,val:=i,born}])
 |[],c,_,b,_=>by
  simp only[dB]at b;subst b;simp only[gR,dB];exact⟨_,[],rfl,d,hx,rfl⟩
 |(n,v')::a,c,f,b,h=>by
  simp only[dB]at b;obtain⟨e,rest,rfl,j,k,l⟩:=b;simp only[gw,QL f]at h
  split at h
  ·simp at h
  ·rename_i m;simp only[gR,m];rw[if_neg s_];simp only[dB];exact⟨e,_,rfl,j,k,Ox (T:=T) d hx born a rest f l h⟩
  ·simp at h
def xZ(ok:Bool)(z:PV):Option PV->PV
 |some v=>if ok then .aE [v,.bool true]else v
 |none=>if ok then .aE [z,.bool false]else z
theorem aqN{T:da}{c E:da}{x i:dg}{ok:Bool}{key z:PV}{r:Option PV}{k:List (PV×PV)}(B:o.op= .lookup T x i ok)(g:nT P T=some (c,E))(hz:cO P E=some z)(hk:iw P c key=true)(A:gw P c k key=some r)
 {ρc:dg->dd}(y:aH P w ad key (ρc i))(hx:(ρc x=.map none/\k=[])\/∃b a d,ρc x=.map (some b)/\w.heap[b]?=some (.map a d)/\dB P w ad k a.toList):
 ∃cv,(dq ρc o).run P w=.ok (.value cv) w/\aH P w ad (xZ ok z r) cv:=by
 have m:P.underlying T=some (.map c E):=by
  unfold nT at g
  split at g
  ·rename_i C;simp at g;rw[C,g.1,g.2]
  ·simp at g
 obtain⟨s,z1,z2⟩:=arF hz;obtain⟨a,q,n⟩:∃a:Array dx,((ρc x=.map none/\a=#[])\/∃b d,ρc x=.map (some b)/\w.heap[b]?=some (.map a d))/\dB P w ad k a.toList:=by
  rcases hx with⟨hx,rfl⟩|⟨b,a,d,hx,h,n⟩
  ·exact⟨#[],.inl ⟨hx,rfl⟩,by simp[dB]⟩
  ·exact⟨a,.inr ⟨b,d,hx,h⟩,n⟩
 obtain⟨l,t⟩:=Q9 hk y n A
 have p:∀(f:Option (Nat×dd))(v:dd)(b:Bool),(fi c (ρc i) a.toList).run P w= .ok f w->(f=none/\v=s/\b=false\/∃j,f=some (j,v)/\b=true)->
  (dq ρc o).run P w=.ok (.value (if ok then .tuple #[v,.bool b]else v)) w:=by
  intro f v b hf u;simp only[dq,B];refine gI ?_;rcases u with⟨rfl,rfl,rfl⟩|⟨j,rfl,rfl⟩
  ·rcases q with⟨hx,rfl⟩|⟨b,d,hx,h⟩
   ·have hf:(fi c (ρc i) []).run P w=.ok none w:=hf;cases ok<;>simp[fw,db m,hx,l,hf,z1]
   ·cases ok<;>simp[fw,db m,hx,gc h,l,hf,z1]
  ·rcases q with⟨hx,rfl⟩|⟨b,d,hx,h⟩
   ·have hf:(fi c (ρc i) []).run P w=.ok (some (j,v)) w:=hf;cases ok<;>simp[fw,db m,hx,l,hf]
   ·cases ok<;>simp[fw,db m,hx,gc h,l,hf]
 rcases t with⟨rfl,f1⟩|⟨v,j,e,rfl,f1,f3⟩
 ·refine⟨_,p none s false f1 (.inl ⟨rfl,rfl,rfl⟩),?_⟩;cases ok with
  |true=>simp only[xZ,if_true,aH,bY];exact⟨_,⟨_,_,rfl,z2 w ad,_,_,rfl,rfl,rfl⟩,rfl⟩
  |false=>simpa[xZ]using z2 w ad
 ·refine⟨_,p _ e.val true f1 (.inr ⟨_,rfl,rfl⟩),?_⟩;cases ok with
  |true=>simp only[xZ,if_true,aH,bY];exact⟨_,⟨_,_,rfl,f3,_,_,rfl,rfl,rfl⟩,rfl⟩
  |false=>simpa[xZ]using f3
theorem zT{T:da}{c E:da}{x g:dg}{ok:Bool}{key z:PV}{r:Option PV}{es:List (PV×PV)}{aA:List (Nat×Obj)}(f:o.op= .lookup T x g ok)(m:nT P T=some (c,E))(hz:cO P E=some z)(hi:ρ g= .p key)(hk:iw P c key=true)(n:gw P c es key=some r)
 (hx:(ρ x=.p .gB/\es=[])\/ρ x=.p (.fA es)\/∃b fz,ρ x=.map b/\(b,.map fz es)∈aA):
 bM P o ρ base {v:=.p (xZ ok z r),aA}:=by
 refine bM.same fun H w ad ai β t s i aA=>?_;have a:=(i x (by simp[f,gg])).1;have e:=(i g (by simp[f,gg])).1;rw[hi]at e;simp only[aD]at e;obtain⟨cv,c1,c2⟩:=aqN f m hz hk n (ρc:=t) (w:=w) (ad:=ad) e (by
  rcases hx with⟨hx,rfl⟩|hx|⟨b,fz,hx,q⟩
  ·rw[hx]at a;simp only[aD,aH]at a;exact .inl ⟨a,rfl⟩
  ·rw[hx]at a;simp only[aD,aH]at a;obtain⟨b,d,clock,_,j,k,l⟩:=a;exact .inr ⟨b,d,clock,l,j,k⟩
  ·rw[hx]at a;simp only[aD,cg,cG]at a;have h:=aA _ q;obtain⟨d,clock,k1,k2,_⟩:=s.dQ b _ h;exact .inr ⟨_,d,clock,a.2.1 ⟨_,h,rfl⟩,k1,k2⟩)
 exact⟨cv,c1,by simpa only[aD]using c2,by simp[aI]⟩
theorem aqG{T:da}(e:o.op=.makeMap T none):bM P o ρ base {v:=.map base,bm:=[.map false []]}:=by
 intro H w ad ai β i b j _ d;have a:H[base]?=some .hole:=by simpa using d 0 s_
 have g:(dq i o).run P w=.ok (.value (.map (some w.heap.size))) {w with heap:=w.heap.push (.map #[] 0)}:=by
  simp only[dq,e];exact zD (by simp[Instr.makeMap])
 have f:=xp (cap:=0) b a (ob:=.map #[] 0) (o':=.map false [])
  ⟨#[],0,by simp[Bd.at],by simp[dB],by
   simp only[dV,Bd.at,if_true,cy,if_false];exact⟨fun h=>lb _ (b.cq _ h),fun h=>lb _ (b.fN _ h)⟩⟩ trivial
 refine⟨_,_,_,_,ad,g,.inl rfl,f,?_,?_⟩
 ·simp only[aD,cg,cG,oZ];exact⟨rfl,fun _=>by simp[Bd.at],fun⟨L,c⟩=>by rw[hT (hR.1 a).1]at c;cases c⟩
 ·simp only[aI,oZ];exact⟨_,hT (hR.1 a).1,trivial⟩
theorem Qt(f:cK P w ad β H ai){b:Nat}{o o':Obj}(a:H[b]?=some o)(i:o.live)(j:o'.live)(n:∀v,o.has v->o'.has v)(l:∀L,o≠ .loop L){ob:Go.Obj}
 (_hb:β.az b<w.heap.size)(e:¬ad (β.az b)/\¬ai (β.az b))(aY:cZ β H β (H.set b o'))
 (p:fP P {w with heap:=w.heap.setIfInBounds (β.az b) ob} ad β (H.set b o') ai b o')(q:o'.refs (aQ (H.set b o'))):
 cF P ai ad w β H ad {w with heap:=w.heap.setIfInBounds (β.az b) ob} β (H.set b o'):=by
 refine cF.set f (hR.1 a).1 (fun _ _=>⟨rfl,rfl⟩) (fun _ x=>x) (fun _ x=>.inl x) (fun k hk=>by simpa using f.cq k hk) s_
  (fun k hk _=>?_) (fun _=>.inr ⟨rfl,⟨o,a,i⟩,.inr e.1,e.2⟩) aY p q (fun r v c g=>by rw[a]at c;cases c;exact n v g) (fun L d=>by rw[a]at d;cases d;exact(l L rfl).elim)
 have m:k≠β.az b:=hk.resolve_right (fun h=>h j);simp[lz m]
theorem Od{T t E:da}{m k x:dg}{b:Nat}{key v:PV}{a:List (PV×PV)}{r:Option PV}(g:o.op= .mapUpdate T m k x\/o.op= .insert T m k x)(z:nT P T=some (t,E))(aa:ρ m= .map b)(hk:ρ k= .p key)(hx:ρ x= .p v)
 (hf:iw P t key=true)(f:pB P t a key=some r):bM P o ρ base {v:=.p (.aE []),aA:=[(b,.map false a)],aW:=[(b,.map false (gR a key v))]}:=by
 have M:P.underlying T=some (.map t E):=by
  unfold nT at z
  split at z
  ·rename_i N;simp at z;rw[N,z.1,z.2]
  ·simp at z
 intro H w ad ai β c S O aA _;have G:H[b]?=some (.map false a):=by simpa using aA
 have L:m∈o.op.operands/\k∈o.op.operands/\x∈o.op.operands:=by
  rcases g with g|g<;>simp[g,gg]
 have l:=(O m L.1).1;have q:=(O k L.2.1).1;have B:=(O x L.2.2).1;rw[aa]at l;rw[hk]at q;rw[hx]at B;simp only[aD,cg,cG]at l q B;have l:=l.2.1 ⟨_,G,rfl⟩;obtain⟨i,clock,k1,k2,k3⟩:=S.dQ b _ G;have R:¬ad (β.az b)/\¬ai (β.az b):=by
  unfold dV at k3;rw[if_neg s_]at k3;exact k3
 have F:gw P t a key=some r:=by
  by_cases s:qE key
  ·rw[<-ZR s];exact f
  ·obtain⟨u,fs,cz,rfl,_⟩:=Gk hf s;simp only[pB]at f
   split at f
   ·rename_i hq;rw[hq];exact f
   ·cases f
 have J:=(Q9 hf q k2 F).1 false;have Q:β.az b<w.heap.size:=(b0.1 k1).1;have aY:cZ β H β (H.set b (.map false (gR a key v))):=nM G
 have I:∀(y:Array dx)(A:Nat),(fv T (c m) (c k) (c x)).run P w= .ok () {w with heap:=w.heap.setIfInBounds (β.az b) (.map y A)}->dB P w ad (gR a key v) y.toList->
  ∃n cv w' aR aJ,(dq c o).run P w=.ok n w'/\(n=.value cv\/n=.skip/\cv=undef)/\
  cF P ai ad w β H aJ w' aR (bu H ([(b,.map false (gR a key v))]++newAt base []))/\aD P w' aJ aR (bu H ([(b,.map false (gR a key v))]++newAt base [])) (.p (.aE [])) cv/\
  aI (aQ (bu H ([(b,.map false (gR a key v))]++newAt base []))) (.p (.aE [])):=by
  intro y A ae ab;have W:(dq c o).run P w=.ok .skip {w with heap:=w.heap.setIfInBounds (β.az b) (.map y A)}:=by
   rcases g with g|g<;>simp[dq,g,ae]
  have af:∀D,ad D->({w with heap:=w.heap.setIfInBounds (β.az b) (.map y A)}:dp).heap[D]?=w.heap[D]?:=by
   intro D Z;have:β.az b≠D:=fun V=>R.1 (V▸Z);simp[this]
  refine⟨_,_,_,β,ad,W,.inr ⟨rfl,rfl⟩,?_,by simp[aD,aH,bY,undef],by simp[aI]⟩;simp only[newAt,hZ,bu];exact Qt (o':=.map false (gR a key v)) S G trivial trivial (fun _ h=>h) (fun _ h=>by cases h) Q R aY ⟨y,A,by simp[Q],dB.mono (fun _ x=>x) af _ _ ab,k3⟩ trivial
 by_cases s:qE key
 case neg=>
  obtain⟨u,fs,cz,rfl,N,_,_⟩:=Gk hf s;have ac:r=none:=by
   simp only[pB]at f
   split at f
   ·simpa using f.symm
   ·cases f
  subst ac;rcases GN q a i.toList 0 none k2 F with⟨_,f1,f2⟩|⟨v',j,e,U,_⟩
  ·have C:=Hi N f1;refine I (i.push {key:=c k,val:=c x,born:=clock}) (clock+1) ?_ ?_
   ·rw[l];simp only[fv,hE,db M,hC,gc k1,J,C,run_setObj_map _ k1]
   ·rw[cc];exact f2 v (c x) clock B
  ·cases U
 obtain⟨d,K,X⟩:=N9 hf s q;rcases Hh K hf s q a i.toList 0 r k2 F with⟨rfl,f1⟩|⟨v',j,e,rfl,f1,f2,f3,f4,f5⟩
 ·have C:=run_findKey (w:=w) K f1;refine I (i.push {key:=c k,val:=c x,born:=clock}) (clock+1) ?_ ?_
  ·rw[l];simp only[fv,hE,db M,hC,gc k1,J,C,run_setObj_map _ k1]
  ·rw[cc];exact Ox (T:=t) q B clock a i.toList s k2 F
 ·have C:=run_findKey (w:=w) K f1;have Y:i[j]?=some e:=by simpa using f2
  refine I (i.modify j fun e=>{e with key:=c k,val:=c x}) clock ?_ ?_
  ·rw[l];simp only[fv,hE,db M,hC,gc k1,J,C];simp only[le,Y,Option.map_some,l3,f4,run_keyThatStays X,hC,run_setObj_map _ k1]
  ·rw[Array.toList_modify];exact f5 v (c x) B
end
section
variable{P:c9}{w:dp}{ad ai:Nat->Prop}{β:Bd}{H:ak}
variable{o:Oper}{ρ:dg->AV}{base:Nat}
theorem Z5(bs:ByteArray):iL (kV bs)=bs:=by
 unfold iL kV;apply ByteArray.ext;apply b2;simp only[j7];have:(UInt8.ofNat∘fun x:UInt8=>x.toNat)=id:=by funext x;simp
 rw[this];simp
theorem avB{T:da}{x:dg}{s:List Nat}(d:o.op=.range T x)(hx:ρ x=.p (.str s))(e:jG P T=true):bM P o ρ base {v:=.ptr base [],bm:=[.fC s 0]}:=by
 intro H w ad ai β k b j _ f;have c:H[base]?=some .hole:=by simpa using f 0 s_
 have a:=(j x (by simp[d,gg])).1;rw[hx]at a;simp only[aD,aH]at a;obtain⟨bs,e1,e2⟩:=a;have i:(dq k o).run P w=.ok (.value (.pointer (some ⟨w.heap.size,0,none⟩))) {w with heap:=w.heap.push (.stringIter bs 0)}:=by
  simp only[dq,d,e1];exact zD (by simp[Instr.range,db (Cy e)])
 have g:=xp (cap:=0) b c (ob:=.stringIter bs 0) (o':=.fC s 0)
  ⟨bs,by simp[Bd.at],e2,by
   simp only[dV,Bd.at,if_true,cy,if_false];exact⟨fun h=>lb _ (b.cq _ h),fun h=>lb _ (b.fN _ h)⟩⟩ trivial
 refine⟨_,_,_,_,ad,i,.inl rfl,g,?_,?_⟩
 ·simp only[aD,cg,cG,oZ];exact⟨rfl,_,_,0,rfl,rfl,fun _=>by simp[Bd.at]⟩
 ·simp only[aI,oZ];exact⟨_,hT (hR.1 c).1,trivial⟩
theorem aO2{g:dg}{b:Nat}{s:List Nat}{pos:Nat}(i:o.op= .next g true)(hx:ρ g= .ptr b []):
 (pos<s.length->bM P o ρ base {v:=.p (.aE [.bool true,.int .i64 pos,.int .i32 (hM (iL s) pos).1]),aA:=[(b,.fC s pos)],aW:=[(b,.fC s (pos+(hM (iL s) pos).2))]})/\
 (¬pos<s.length->bM P o ρ base {v:=.p (.aE [.bool false]),aA:=[(b,.fC s pos)]}):=by
 have key:∀{H:ak}{w:dp}{ad ai:Nat->Prop}{β:Bd}{e:dg->dd},cK P w ad β H ai->(∀x∈o.op.operands,aD P w ad β H (ρ x) (e x)/\aI (aQ H) (ρ x))->H[b]?=some (.fC s pos)->
  e g=.pointer (some ⟨β.az b,0,none⟩)/\∃bs:ByteArray,w.heap[β.az b]?=some (.stringIter bs pos)/\s=kV bs/\(¬ad (β.az b)/\¬ai (β.az b)):=by
  intro H w ad ai β e d f a;have c:=(f g (by simp[i,gg])).1;rw[hx]at c;simp only[aD,cg,cG]at c;obtain⟨_,az,off,u,n,l,q⟩:=c;simp[iF]at l;subst l;obtain⟨rfl,rfl⟩:=q ⟨_,a,rfl⟩;obtain⟨bs,k1,k2,k3⟩:=d.dQ b _ a;unfold dV at k3;rw[if_neg s_]at k3;exact⟨n,bs,k1,k2,k3⟩
 constructor
 ·intro j H w ad ai β e d f aA _;have a:H[b]?=some (.fC s pos):=by simpa using aA
  obtain⟨c,bs,k1,rfl,k3⟩:=key d f a;have k:pos<bs.size:=by simpa[kV]using j
  have m:β.az b<w.heap.size:=(b0.1 k1).1;rw[Z5];have t:(dq e o).run P w=.ok (.value (.tuple #[.bool true,goInt pos,.int .i32 (hM bs pos).1])) {w with heap:=w.heap.setIfInBounds (β.az b) (.stringIter bs (pos+(hM bs pos).2))}:=by
   simp only[dq,i,c];refine zD ?_;simp[gb,getObj,setObj,hG,k1,hD,k]
  have aY:cZ β H β (H.set b (.fC (kV bs) (pos+(hM bs pos).2))):=nM a;have r:=Qt (o':=.fC (kV bs) (pos+(hM bs pos).2)) (ob:=.stringIter bs (pos+(hM bs pos).2)) d a trivial trivial (fun _ h=>h) (fun _ h=>by cases h) m k3 aY
   ⟨bs,by simp[m],rfl,by unfold dV;rw[if_neg s_];exact k3⟩ trivial
  refine⟨_,_,_,β,ad,t,.inl rfl,?_,?_,by simp[aI]⟩
  ·simpa only[newAt,hZ,bu]using r
  ·simp only[aD,aH,bY];exact⟨_,⟨_,_,rfl,rfl,_,_,rfl,rfl,_,_,rfl,rfl,rfl⟩,rfl⟩
 ·intro j;refine bM.same fun H w ad ai β e d f aA=>?_;have a:H[b]?=some (.fC s pos):=by simpa using aA
  obtain⟨c,bs,k1,rfl,k3⟩:=key d f a;have k:¬pos<bs.size:=by simpa[kV]using j
  refine⟨.tuple #[.bool false],?_,by simp only[aD,aH,bY];exact⟨_,⟨_,_,rfl,rfl,rfl⟩,rfl⟩,by simp[aI]⟩;simp only[dq,i,c];refine gI ?_;simp[gb,getObj,hG,k1,hD,k]
theorem avC{T u:da}{x:dg}{f:Nat}{fs:Array eb}{t g:PV}{F:da}(h:o.op= .field T x f)(hk:kindOf P T= .agg u)(b:P.underlying T=some (.struct fs))(hx:ρ x= .p t)(hs:aP t= .agg u)(e:(cz t)[f]?=some g)(m:(l6 P u)[f]?=some F)(q:kindOf P F=aP g):
 bM P o ρ base {v:=.p g}:=by
 refine bM.same fun H w ad ai β I C s _=>?_;have a:=(s x (by simp[h,gg])).1;rw[hx]at a;simp only[aD]at a;cases t<;>simp[aP]at hs;rename_i u' k;subst hs;simp only[cz]at e;simp only[aH]at a;obtain⟨l,d,k1,k2,k3⟩:=a;obtain⟨B,D,s1,s2,E,j,G,z⟩:=zG (P:=P) (T:=T) (u:=u') (n:=fs.size) (by unfold fp;rw[hk,b]);rw[b]at s1;cases s1;rw[k1]at j;cases j;have r:b9 P w ad ⟨id,id⟩ [] l (k.map .p) d:=rN.2 k2;obtain⟨pre,c,post,e1,e2,e3,e4,e5,_⟩:=xH (f:=.p g) (i:=f) r (by simp[e]);simp only[bG]at e5;obtain⟨A,g1,g2,g3,g4,g5⟩:=z f o_;rw[m]at g5;cases g5;obtain⟨y,y1,y2⟩:=vh q e5 (pre:=pre) (post:=post) (cs:=d.flatten.toArray) (by simpa using e1);refine⟨y,?_,by simpa only[aD]using y2,by simp[aI]⟩;simp only[dq,h,k3];refine gI ?_;rw[e2,<-g2]at y1;simp only[Instr.field,hE,db b,hC,g1];simp[asAgg,y1]
theorem anp{T u:da}{n:Nat}{x k:dg}{N:dy}{i:Int}{a:List PV}{g:PV}{F:da}(j:o.op= .index T x k)(A:iO P T=some (u,n))(hx:ρ x= .p (.st u a))(hi:ρ k= .p (.int N i))
 (z:0<=i)(hn:i.toNat<n)(h:(l6 P u)[i.toNat]?=some F)(E:a[i.toNat]?=some g)(G:kindOf P F=aP g):bM P o ρ base {v:=.p g}:=by
 refine bM.same fun H w ad ai β Q O t _=>?_;have b:=(t x (by simp[j,gg])).1;have d:=(t k (by simp[j,gg])).1;rw[hx]at b;rw[hi]at d;simp only[aD,aH]at b d;obtain⟨l,m,k1,k2,k3⟩:=b;obtain⟨e,s,hk,r,J⟩:=xB A;rw[k1]at r;cases r;have B:F=e:=by
  obtain⟨D,_,_⟩:=Gj hk;have C:(P.info? u).map (fun i:TypeInfo=>i.desc)=some (.array n e):=by rw[D,<-F2,s]
  unfold l6 at h;rw[C]at h;have q:(hW n e)[i.toNat]?=some F:=h;rw[List.getElem?_replicate,if_pos hn]at q;exact(l5 q).symm
 subst B;have K:b9 P w ad ⟨id,id⟩ [] (hW n (P.cellsOf F)) (a.map .p) m:=rN.2 k2;obtain⟨pre,c,post,e1,e2,e3,e4,e5,_⟩:=xH (f:=.p g) (i:=i.toNat) K (by simp[E]);simp only[bG]at e5;obtain⟨y,y1,y2⟩:=vh G e5 (pre:=pre) (post:=post) (cs:=m.flatten.toArray) (by simpa using e1);have L:((hW n (P.cellsOf F)).take i.toNat).sum=i.toNat*P.cellsOf F:=by rw[List.take_replicate,Nat.min_eq_left o_,List.sum_replicate_nat]
 have M:(sizeOf F).run P w=.ok (P.cellsOf F) w:=by
  cases hi:P.info? F with
  |none=>simp[Program.cellsOf,hi]at J
  |some i=>simp[sizeOf,typeInfo,hi,Program.cellsOf]
 refine⟨y,?_,by simpa only[aD]using y2,by simp[aI]⟩;simp only[dq,j,k3,d];refine gI ?_;have I:i<(n:Int):=o_
 rw[e2,L]at y1;simp only[Instr.index,asIntOf,hE,hF,db s,hC];simp[z,I,M,y1]
theorem Oj{k:dy}{f:Bool}{ρc:dg->dd}:∀(l:List dg)(a n:Int),pj k f (l.map ρ) a=some n->(∀x∈l,aD P w ad β H (ρ x) (ρc x))->
 ((l.map ρc).foldlM (if f then ew else er) (.int k a)).run P w=.ok (.int k n) w
 |[],a,n,h,_=>by simp[pj]at h;subst h;simp
 |x::l,a,n,h,g=>by
  simp only[hX]at h;unfold pj at h
  split at h
  ·rename_i e;cases e
  ·rename_i j b r a' e;simp at e;obtain⟨e1,rfl⟩:=e
   split at h
   case isFalse=>simp at h
   rename_i hk;subst hk;have d:=g x s_;rw[e1]at d;simp only[aD,aH]at d;have c:=Oj l _ n h (fun y i=>g y (by simp[i]));simp only[hX,List.foldlM_cons,hE,d];cases f with
   |true=>simp only[if_true,ew,hF,hC]at c⊢;exact c
   |false=>simp only[cy,if_false,er,hF,hC]at c⊢;exact c
  ·simp at h
theorem Pp{c:Call}{isMax:Bool}{k:dy}{a n:Int}{r:List AV}(m:o.op= .call c)(hc:c.callee= .builtin (if isMax then .max else .min))(b:c.args.toList.map ρ= .p (.int k a)::r)(h:pj k isMax r a=some n):
 bM P o ρ base {v:=.p (.int k n)}:=by
 obtain⟨x,l,i⟩:∃x l,c.args.toList=x::l:=by
  cases s:c.args.toList with
  |nil=>rw[s]at b;simp at b
  |cons x l=>exact⟨x,l,rfl⟩
 rw[i]at b;simp at b;obtain⟨hx,rfl⟩:=b;have g:c.args=(x::l).toArray:=by apply b2;simpa using i
 have j:∀y∈x::l,y∈o.op.operands:=by
  intro y f;rw[m];simp only[gg,e9,hc,g];simpa using f
 refine bM.same fun H w ad ai β t u q _=>⟨.int k n,?_,by simp[aD,aH],by simp[aI]⟩
 have d:=(q x (j x s_)).1;rw[hx]at d;simp only[aD,aH]at d;have e:=Oj (ρc:=t) l a n h (fun y f=>(q y (j y (by simp[f]))).1);simp only[dq,m,resolve,hc,g];cases isMax with
 |true=>
  simp only[if_true]at e⊢;simp[invoke,builtin,e7,d,e]
 |false=>
  simp only[cy,if_false]at e⊢;simp[invoke,builtin,eP,d,e]
end
section
variable{P:c9}{w:dp}{ad ai:Nat->Prop}{β:Bd}{H:ak}
variable{o:Oper}{ρ:dg->AV}{base:Nat}
theorem aOV{c:Call}{x:dg}(e:o.op=.call c){b:Builtin}(hc:c.callee=.builtin b)(d:c.args.toList=[x]):x∈o.op.operands/\c.args=#[x]:=by
 have a:c.args=#[x]:=by apply b2;simpa using d
 refine⟨?_,a⟩;rw[e];simp only[gg,e9,hc,a];simp
theorem Zc{c:Call}{x:dg}{H0:ak}{b aF an off len:Nat}{k:AK}{a:List AV}(i:o.op= .call c)(hc:c.callee= .builtin .unsafeSliceData)(j:c.args.toList=[x])
 (hx:ρ x=.sl b aF an off len)(t:H0[b]?=some (.arr k aF an a))(u:0<len)(f:off+len<=a.length):bM P o ρ base {v:=.cM b aF an off [],aA:=[(b,.arr k aF an a)]}:=by
 obtain⟨n,l⟩:=aOV i hc j;refine bM.same fun H w ad ai β z p q m=>?_;obtain⟨d,e⟩:=q x n;have g:H[b]?=some (.arr k aF an a):=by simpa using m
 rw[hx]at d e;simp only[aD,cg,cG]at d;obtain⟨_,v2,v3⟩:=d.2 k a g;have hn:¬eU k a:=fun h=>by rw[h.2]at f;simp at f;omega
 refine⟨.pointer (some ⟨β.az b,off*an,none⟩),?_,?_,by simpa only[aI]using e⟩
 ·simp only[dq,i,resolve,hc,l];simp only[hE,hF,hC,invoke,builtin,kx,hX,i9];obtain⟨_,_,_,_,_,_,_,_,k5,_⟩:=(p.dQ b _ g).resolve_left hn;rw[v3 hn,Lib.run_unsafeSliceData_row w _ _ _ _ _ o_];rfl
 ·simp only[aD,cg,cG];exact⟨by simp[hN],β.az b,off*an,0,s_,rfl,fun y r s _=>⟨rfl,s_⟩⟩
theorem atz(w:dp)(a:Addr)(n:Nat):(w.freeze a n).os=w.os/\(w.freeze a n).output=w.output:=by
 unfold World.freeze
 first|exact⟨rfl,rfl⟩|(split<;>exact⟨rfl,rfl⟩)
theorem ate{w':dp}(g:cK P w ad β H ai){b:Nat}{o:Obj}(f:H[b]?=some o)(t:o.live)(d:¬ad (β.az b)/\¬ai (β.az b))(A:∀L,o≠ .loop L)(B:w'.heap.size=w.heap.size)
 (hs:∀k,k≠β.az b->w'.heap[k]?=w.heap[k]?)(z:w'.os=w.os/\w'.output=w.output:=by exact⟨rfl,rfl⟩):cF P ai ad w β H ad w' β (H.set b .dead):=by
 have m:b<H.length:=(hR.1 f).1;have j:∀(x:Nat)(a:Obj),(H.set b Obj.dead)[x]?=some a->a≠.dead->H[x]?=some a:=by
  intro x a hx p
  by_cases i:b=x
  ·subst i;rw[hT m]at hx;cases hx;exact(p rfl).elim
  ·rwa [h5 i]at hx
 have aY:cZ β H β (H.set b .dead):=by
  refine⟨?_,?_⟩
  ·rintro k x _ ⟨C,h,n⟩;exact⟨⟨C,j _ _ h (fun e=>by rw[e]at n;cases n),n⟩,rfl⟩
  ·intro x aF an k u _ h;exact⟨k,u,j _ _ h s_,kW _,Iff.rfl,fun _=>⟨rfl,rfl⟩⟩
 have l:cF P ai ad w β H ad w β (H.set b .dead):=
  cF.set g m (fun _ _=>⟨rfl,rfl⟩) (fun _ x=>x) (fun _ x=>.inl x) g.cq (kW _) (fun _ _ _=>rfl) (fun h=>h.elim) aY trivial trivial (fun _ _ _ _=>trivial) (fun L r=>by rw[f]at r;cases r;exact(A L rfl).elim)
 have hx:=g.rZ f t;have v:=l.rel.Qg hx (fun x a q c s=>by
  have p:a≠.dead:=fun e=>by rw[e]at c;exact c
  have i:x=b:=g.inj x b a o (j _ _ q p) f c t (fun hi=>d.1 (s▸hi)) s;subst i;rw[hT m]at q;cases q;exact c)
 have y:=v.shut (w':=w') (Prot0:=ai) (fun _ h=>.inl h) (R:=fun k=>k=β.az b) (fun x e=>⟨.inr e,e▸d.1⟩) B (fun k hk=>hs k hk);refine⟨fun _ h=>h,fun _ h=>.inl h,⟨o_,fun k hk=>hs k (fun e=>?_),z⟩,aY,y,l.iS,l.loop⟩;rcases hk with hk|hk
 ·exact d.2 (e▸hk)
 ·exact d.1 (e▸hk)
theorem OC:∀{d:List AV}{l:List Nat}{b:List (List dd)},bytesOf d=some l->Row P w ad β H 1 d b->b.flatten=l.map (fun c=>hO .u8 (c:Nat))/\l.length=d.length/\∀c∈l,c<256
 |[],l,b,h,a=>by
  simp[bytesOf]at h;subst h;rw[jv]at a;subst a;simp
 |v::d,l,b,h,a=>by
  unfold bytesOf at h
  split at h
  ·rename_i e;cases e
  ·rename_i c r e;simp at e;obtain⟨rfl,rfl⟩:=e
   split at h
   case isFalse=>simp at h
   rename_i hc
   split at h
   case h_2=>simp at h
   rename_i m i;simp at h;subst h;rw[uQ]at a;obtain⟨j,cs,rfl,f,k,g⟩:=a;obtain⟨i1,i2,i3⟩:=OC i g;simp only[bG,bc]at f;subst f;refine⟨by simp[i1];omega,by simp[i2],?_⟩;intro x hx;rcases hV.1 hx with rfl|hx
   ·omega
   ·exact i3 x hx
  ·simp at h
theorem Zf{c:Call}{x y:dg}{b aF n:Nat}{d:List AV}{l:List Nat}{T X:da}(F:o.op= .call c)(hc:c.callee= .builtin .unsafeString)(N:c.args.toList=[x,y])(ab:c.argTypes=#[T,X])(hx:ρ x= .cM b aF 1 0 [])(ae:ρ y= .p (.int .i64 n))
 (ah:0<n)(C:n<=d.length)(aj:n<=9223372036854775807)(M:P.underlying T=some (.pointer Gl.u8))(ac:P.cellsOf Gl.u8=1)(W:bytesOf (d.take n)=some l):
 bM P o ρ base {v:=.p (.str l),aA:=[(b,.arr .bytes aF 1 d)],aW:=[(b,.dead)]}:=by
 have s:c.args=#[x,y]:=by apply b2;simpa using N
 have D:x∈o.op.operands/\y∈o.op.operands:=by
  rw[F];simp[gg,e9,hc,s]
 intro H w ad ai β r G I aA _;have q:H[b]?=some (.arr .bytes aF 1 d):=by simpa using aA
 have e:=(I x D.1).1;have f:=(I y D.2).1;rw[hx]at e;rw[ae]at f;simp only[aD,cg,cG,aH]at e f;have i:¬eU .bytes d:=fun h=>by rw[h.2]at C;simp at C;omega
 obtain⟨_,az,off,ak,Y,E,e⟩:=e;simp[iF]at E;subst E;obtain⟨rfl,rfl⟩:=e _ _ q i;rcases G.dQ b _ q with hold|⟨cs,af,ag,rest,k1,k2,k3,k4,k5,k6,k7,k8⟩
 ·exact(i hold).elim
 obtain rfl:=k8.2 rfl;have U:¬ad (β.az b)/\¬ai (β.az b):=by
  unfold dV at k7;rw[if_neg s_]at k7;exact k7
 obtain⟨a,m,z,g1,g2,g3,g4,g5⟩:=qq k2 0 n o_;have O:a=[]:=by have:=(jF g4).1;simpa using this
 subst O;rw[kH]at g2;obtain⟨J,K,L⟩:=OC W g2;obtain⟨bs,u⟩:∃bs:List UInt8,bs=l.map UInt8.ofNat:=⟨_,rfl⟩
 have g:bs.length=n:=by rw[u];simp[K];omega
 have t:bs.map (·.toNat)=l:=by
  rw[u,j7]
  conv=>rhs;rw[<-js l]
  refine kf fun c hc=>?_;have:=L c hc;simp[UInt8.toNat_ofNat'];omega
 have A:cs.toList=bs.map (fun c=>hO .u8 c.toNat)++(z.flatten++rest):=by
  rw[k3,g1];simp only[kF,kk,ix,J];congr 1;rw[<-t,j7];rfl
 have aa:=Lib.run_unsafeString_row (P:=P) w T X o.type Gl.u8 M ac (β.az b) cs.size (by simp[World.shape?,k1]) bs (fun h=>by rw[h]at g;simp at g;omega) (by
  have:=congrArg kP A;simp only[b5,hU,j4]at this;omega) o_ (fun j v B=>by
  have V:j<bs.length:=(hR.1 B).1;rw[mW];have:cs[j]?=some (.int .u8 v.toNat):=by
   rw[<-b4,A,j5 (by simpa using V),List.getElem?_map,B];rfl
  simp[World.cell?,k1,this])
 have Q:(dq r o).run P w=.ok (.value (.string ⟨bs.toArray⟩)) (w.freeze ⟨β.az b,0,none⟩ bs.length):=by
  simp only[dq,F,resolve,hc,s];simp only[hE,hF,hC,invoke,builtin,kx,hX,i9];have key:(eM c.argTypes o.type #[r x,r y]).run P w=.ok (.string ⟨bs.toArray⟩) (w.freeze ⟨β.az b,0,none⟩ bs.length):=by
   rw[ab,Y,f,<-g];simpa using aa
  rw[key];rfl
 have S:∀k,k≠β.az b->(w.freeze ⟨β.az b,0,none⟩ bs.length).heap[k]?=w.heap[k]?:=by
  intro k hk;unfold World.freeze
  split
  ·rfl
  ·simp[Array.getElem?_modify,lz hk]
 have R:(w.freeze ⟨β.az b,0,none⟩ bs.length).heap.size=w.heap.size:=by
  unfold World.freeze
  split<;>simp
 have Z:=ate G q i U (fun _ h=>by cases h) R S (atz _ _ _);refine⟨_,_,_,β,ad,Q,.inl rfl,?_,?_,by simp[aI]⟩
 ·simpa only[newAt,hZ,bu]using Z
 ·simp only[aD,aH];exact⟨_,rfl,by simpa using t.symm⟩
end
section
variable{P:c9}
theorem th(aq:dl->Bool):o7 P aq:=by
 intro o ρ H K _ h;unfold gO at h;have plain:∀{e:bg},K e->bM P o ρ H.length e->e.aA=[]->e.aW=[]->∃e,K e/\bM P o ρ H.length e/\(∀p∈e.aA,H[p.1]?=some p.2)/\(∀p∈e.aW,p.1<H.length/\p.2≠.hole):=by
  intro e q w B G;exact⟨e,q,w,by simp[B],by simp[G]⟩
 cases j:o.op<;>simp only[j]at h
 case move x=>exact plain h (VS (.inl j)) rfl rfl
 case assign x=>exact plain h (VS (.inr j)) rfl rfl
 case pick c a b=>
  split at h
  ·rename_i t hc;exact plain h (aO3 j hc) rfl rfl
  ·exact h.elim
 case alloc T=>
  split at h
  ·rename_i z hz;exact plain h.2.2.2 (avF j hz h.2.2.1) rfl rfl
  ·exact h.elim
 case box T x=>exact plain h.2.2.2 (aOY j h.2.1 h.2.2.1) rfl rfl
 case build T parts=>
  split at h
  ·rename_i u z hk hz
   split at h
   ·rename_i l A;obtain⟨q,w,B⟩:=h;exact plain B (avE j hk hz A q w) rfl rfl
   ·exact h.elim
  ·exact h.elim
 case buildSlice T n parts=>
  split at h
  ·rename_i sz z R hz;obtain⟨q,w,B,G⟩:=h;exact plain G (ZD j R hz q w B) rfl rfl
  ·exact h.elim
 case load T a=>exact aO1 j h
 case store T a x=>exact avz j h
 case binOp b T x y ap=>
  obtain⟨v,q,w⟩:=aOX (base:=H.length) j h;exact⟨_,q,w,tj,s_⟩
 case unOp u T x=>
  split at h
  ·rename_i b hx;exact plain h (Jj j hx (.inl ⟨rfl,_,rfl,rfl⟩)) rfl rfl
  ·rename_i k n hx;exact plain h (Jj j hx (.inr (.inl ⟨rfl,_,_,rfl,rfl⟩))) rfl rfl
  ·rename_i k n hx;exact plain h (Jj j hx (.inr (.inr ⟨rfl,_,_,rfl,rfl⟩))) rfl rfl
  ·exact h.elim
 case convert S D x=>
  split at h
  ·rename_i d k k0 n V Q hx;exact plain h (aqI j ⟨_,V⟩ Q hx) rfl rfl
  ·rename_i d s V Q hx;exact plain h (aqH j ⟨_,V⟩ Q hx) rfl rfl
  ·exact h.elim
 case extract t i=>
  split at h
  ·rename_i vs ab
   split at h
   ·rename_i v ac;exact plain h (O7 j (.inr ⟨_,ab,rfl⟩) (by simp[ac])) rfl rfl
   ·exact h.elim
  ·rename_i vs ab
   split at h
   ·rename_i v ac;exact plain h (O7 j (.inl ab) ac) rfl rfl
   ·exact h.elim
  ·exact h.elim
 case fieldAddr T a f=>
  obtain⟨e,q,w,B,G⟩:=ZN (base:=H.length) j h;exact plain q w B G
 case indexAddr T x i=>
  obtain⟨e,q,w,B,G⟩:=ZM (base:=H.length) j h;exact⟨e,q,w,B,by simp[G]⟩
 case field T x f=>
  split at h
  ·rename_i u fs t hk aj hx;obtain⟨q,h⟩:=h
   split at h
   ·rename_i g F Y U;exact plain h.2 (avC j hk aj hx q Y U h.1) rfl rfl
   ·exact h.elim
  ·exact h.elim
 case index T x i=>
  split at h
  ·rename_i s k n hx hi;obtain⟨q,w,B,G⟩:=h;exact plain G (ano j hx hi q w B) rfl rfl
  ·rename_i u N k n hx hi
   split at h
   ·rename_i u' m F g J U Y;obtain⟨rfl,ah,hn,hk,h⟩:=h;exact plain h (anp j J hx hi ah hn U Y hk) rfl rfl
   ·exact h.elim
  ·exact h.elim
 case makeFunc fn au ar=>
  cases fn<;>simp only at h
  case func f=>
   obtain⟨m1,m2,m3⟩:=ann (ρ:=ρ) (base:=H.length) j
   split at h
   ·split at h
    ·rename_i a b aA aW I W;obtain⟨q1,ae,ao⟩:=m3 H a b aA aW I W;exact⟨_,h,q1,ae,ao⟩
    ·exact h.elim
   ·split at h
    ·rename_i a b I W;exact plain h (m1 a b I W) rfl rfl
    ·exact plain h m2 rfl rfl
 case makeSlice T l c=>
  split at h
  ·rename_i sz z av c' R hz A hc;obtain⟨q,w,rfl,G,O⟩:=h;exact plain O (ZL j R hz A hc q w G) rfl rfl
  ·exact h.elim
 case slice T x lo hi al=>
  cases al<;>simp only at h;obtain⟨e,q,w,B,G⟩:=avA (base:=H.length) j h;exact⟨e,q,w,B,by simp[G]⟩
 case makeMap T r=>
  cases r<;>simp only at h;exact plain h (aqG j) rfl rfl
 case lookup T x i ok=>
  split at h
  case h_2=>exact h.elim
  rename_i af E key J hi
  split at h
  case h_2=>exact h.elim
  rename_i z hz;obtain⟨hk,h⟩:=h
  split at h
  ·rename_i hx;exact plain h (zT (r:=none) (es:=[]) j J hz hi hk rfl (.inl ⟨hx,rfl⟩)) rfl rfl
  ·rename_i N hx
   split at h
   ·rename_i v A;exact plain h (zT (r:=some v) j J hz hi hk A (.inr (.inl hx))) rfl rfl
   ·rename_i A;exact plain h (zT (r:=none) j J hz hi hk A (.inr (.inl hx))) rfl rfl
   ·exact h.elim
  ·rename_i b hx
   split at h
   case h_2=>exact h.elim
   ·rename_i fz N C
    split at h
    ·rename_i v A;exact⟨_,h,zT (r:=some v) j J hz hi hk A (.inr (.inr ⟨b,fz,hx,s_⟩)),by simpa using C,s_⟩
    ·rename_i A;exact⟨_,h,zT (r:=none) j J hz hi hk A (.inr (.inr ⟨b,fz,hx,s_⟩)),by simpa using C,s_⟩
    ·exact h.elim
  ·exact h.elim
 case mapUpdate T m k x=>
  split at h
  case h_2=>exact h.elim
  rename_i af E b key v J Z hk hx;obtain⟨hf,h⟩:=h
  split at h
  case h_2=>exact h.elim
  rename_i N C
  split at h
  case h_2=>exact h.elim
  rename_i r A;exact⟨_,h,Od (.inl j) J Z hk hx hf A,by simpa using C,by simpa using(hR.1 C).1⟩
 case insert T m k x=>
  split at h
  case h_2=>exact h.elim
  rename_i af E b key v J Z hk hx;obtain⟨hf,h⟩:=h
  split at h
  case h_2=>exact h.elim
  rename_i N C
  split at h
  case h_2=>exact h.elim
  rename_i r A;exact⟨_,h,Od (.inr j) J Z hk hx hf A,by simpa using C,by simpa using(hR.1 C).1⟩
 case range T x=>
  split at h
  ·rename_i s hx;exact plain h.2 (avB j hx h.1) rfl rfl
  ·exact h.elim
 case next it isStr=>
  cases isStr<;>simp only at h
  split at h
  case h_2=>exact h.elim
  rename_i b hx
  split at h
  case h_2=>exact h.elim
  rename_i s pos C;obtain⟨am,an⟩:=aO2 (P:=P) (base:=H.length) (s:=s) (pos:=pos) j hx
  split at h
  ·rename_i aa;exact⟨_,h,am aa,by simpa using C,by simpa using(hR.1 C).1⟩
  ·rename_i aa;exact⟨_,h,an aa,by simpa using C,s_⟩
 case nilCheck x=>
  split at h
  ·rename_i b p hx;exact plain h (F4 j (.inl ⟨b,p,hx⟩)) rfl rfl
  ·rename_i b v e i p hx;exact plain h (F4 j (.inr (.inl ⟨b,v,e,i,p,hx⟩))) rfl rfl
  ·rename_i t hx;exact plain h (F4 j (.inr (.inr ⟨t,hx⟩))) rfl rfl
  ·exact h.elim
 case call c=>
  split at h
  case h_2=>exact h.elim
  rename_i b hc
  split at h
  ·rename_i x I
   split at h
   case h_2=>exact h.elim
   rename_i n aA A;obtain⟨q,w,B⟩:=h;obtain⟨y,_,M,rfl,L⟩:=h0.1 I;obtain rfl:=ip.1 L;obtain⟨q1,ae⟩:=aO0 (P:=P) (base:=H.length) j hc M A q w;exact⟨_,B,q1,ae,s_⟩
  ·rename_i s x I;obtain⟨y,_,M,rfl,L⟩:=h0.1 I;obtain⟨z,_,rfl,rfl,hq⟩:=h0.1 L;obtain rfl:=ip.1 hq;exact asP j hc M h.1 h.2
  ·rename_i k a r I
   split at h
   ·rename_i n hn;exact plain h (Pp (isMax:=false) j hc I hn) rfl rfl
   ·exact h.elim
  ·rename_i k a r I
   split at h
   ·rename_i n hn;exact plain h (Pp (isMax:=true) j hc I hn) rfl rfl
   ·exact h.elim
  ·rename_i I;obtain⟨y,_,M,ad,L⟩:=h0.1 I;obtain rfl:=ip.1 L
   split at h
   case h_2=>exact h.elim
   rename_i C;obtain⟨rfl,rfl,q,w,B⟩:=h;exact⟨_,B,Zc j hc M ad C q w,by simpa using C,s_⟩
  ·rename_i n I;obtain⟨y,_,M,ad,L⟩:=h0.1 I;obtain⟨z,_,rfl,ak,hq⟩:=h0.1 L;obtain rfl:=ip.1 hq
   split at h
   case h_2=>exact h.elim
   rename_i C;obtain⟨rfl,rfl,rfl,rfl,q,w,B,G,J,ai,h⟩:=h
   split at h
   case h_2=>exact h.elim
   rename_i l A;obtain⟨T,X,ag⟩:∃T X,c.argTypes=#[T,X]:=by
    obtain⟨l,A⟩:∃l,c.argTypes.toList=l:=⟨_,rfl⟩
    have O:l.length=2:=by rw[<-A];simpa using G
    match l,O with
    |[a,b],_=>exact⟨a,b,by apply b2;simp[A]⟩
   obtain⟨m,rfl⟩:=Int.eq_ofNat_of_zero_le (by omega:0<=n);simp only[hQ]at w A;rw[ag]at J;exact⟨_,h,Zf j hc M ag ad ak o_ w o_ J ai A,by simpa using C,by simpa using(hR.1 C).1⟩
  ·exact h.elim
end
section
variable{P:c9}{aq:dl->Bool}{n:Nat}
theorem P8{o o':Obj}(h:pL o=some o'):pL o'=some o':=by
 unfold pL at h
 split at h
 ·simp at h;subst h;rfl
 ·rename_i k aF an b
  split at h
  ·simp at h
  ·split at h
   ·rename_i l a;simp at h;subst h;simp[pL,AK.gr,a]
   ·simp at h
 ·simp at h;subst h;rfl
 ·simp at h
theorem aL0{w:dp}{ad ai:Nat->Prop}{β:Bd}{H:ak}(d:cK P w ad β H ai){b:Nat}{o o':Obj}(c:H[b]?=some o)(hf:pL o=some o'):
 ∃aJ,cF P ai ad w β H aJ w β (H.set b o')/\aJ (β.az b):=by
 unfold pL at hf
 split at hf
 ·rename_i fz t;simp at hf;subst hf;obtain⟨cs,T,g,i,j,m⟩:=d.dQ b _ c;have aY:cZ β H β (H.set b (.box true (.p t))):=nM c;exact w8 d c trivial (o':=.box true (.p t)) trivial (fun _ h=>h) (fun _ h=>by cases h) aY j.xU
   (fun aJ hi l=>⟨cs,T,g,bG.mono hi (fun _ _=>rfl) aY _ _ (by simp[aI]) i,l,fun _=>trivial,m.2⟩) (by simp[Obj.refs,aI])
 ·rename_i k aF an f
  split at hf
  ·simp at hf
  ·rename_i hn
   split at hf
   case h_2=>simp at hf
   rename_i B y;simp at hf;subst hf;have q:=po y;rcases d.dQ b _ c with hold|⟨cs,T,s,rest,g,i,j,m,v,z,x,A⟩
   ·exact(hn hold).elim
   have r:¬eU .frozen f:=fun h=>by cases h.1
   have aY:cZ β H β (H.set b (.arr .frozen aF an f)):=LA c hn r;exact w8 d c hn (o':=.arr .frozen aF an f) r (fun _ h=>h) (fun _ h=>by cases h) aY x.xU
    (fun aJ hi l=>.inr ⟨cs,T,s,rest,g,b9.mono hi (fun _ _=>rfl) aY _ _ _ (d.refs b _ c) i,j,m,v,(fun h=>by cases h),l,fun _ e n=>(by rw[q]at n;simp at n;obtain⟨a,_,rfl⟩:=n;trivial),fun h=>by cases h⟩)
    (by rw[q];exact kU _ _)
 ·rename_i fz f;simp at hf;subst hf;obtain⟨u,clock,g,i,j⟩:=d.dQ b _ c;have aY:cZ β H β (H.set b (.map true f)):=nM c;exact w8 d c trivial (o':=.map true f) trivial (fun _ h=>h) (fun _ h=>by cases h) aY j.xU
   (fun aJ hi l=>⟨u,clock,g,dB.mono hi (fun _ _=>rfl) _ _ i,l⟩) trivial
 ·simp at hf
theorem OG{w:dp}{ai:Nat->Prop}{β:Bd}{H0:ak}:∀(bs:List Nat){aA aW:List (Nat×Obj)}{H:ak}{ad:Nat->Prop},nP H0 bs=some (aA,aW)->cK P w ad β H ai->
 (∀p∈aA,∃c,H[p.1]?=some c/\pL c=pL p.2)->∃aJ,cF P ai ad w β H aJ w β (bu H aW)/\∀b∈bs,aJ (β.az b)
 |[],aA,aW,H,ad,h,a,_=>by
  simp[nP]at h;obtain⟨rfl,rfl⟩:=h;exact⟨ad,cF.refl a,s_⟩
 |b::bs,aA,aW,H,ad,h,a,hc=>by
  simp only[nP]at h
  split at h
  case h_2=>simp at h
  rename_i o q s r g
  split at h
  case h_2=>simp at h
  rename_i o' hf;simp at h;obtain⟨rfl,rfl⟩:=h;obtain⟨c,g1,g2⟩:=hc (b,o) s_;simp only at g1 g2;rw[hf]at g2;obtain⟨n,e,l⟩:=aL0 a g1 g2;have i:b<H.length:=(hR.1 g1).1;obtain⟨f,q1,m⟩:=OG bs g e.rel (by
   intro p j;obtain⟨k,k1,k2⟩:=hc p (by simp[j])
   by_cases d:b=p.1
   ·rw[<-d]at k1⊢;rw[g1]at k1;cases k1;refine⟨o',by rw[hT i],?_⟩;rw[<-k2,g2,P8 g2]
   ·exact⟨k,by rw[h5 d];exact k1,k2⟩)
  refine⟨f,by simpa only[bu]using e.trans q1,?_⟩;intro x hx;rcases hV.1 hx with rfl|hx
  ·exact q1.cq _ l
  ·exact m x hx
theorem P9{H0:ak}:∀(bs:List Nat){aA aW:List (Nat×Obj)},nP H0 bs=some (aA,aW)->(∀p∈aA,H0[p.1]?=some p.2)/\(∀p∈aW,p.1<H0.length/\p.2≠.hole)/\aA.map (·.1)=bs
 |[],aA,aW,h=>by
  simp[nP]at h;obtain⟨rfl,rfl⟩:=h;simp
 |b::bs,aA,aW,h=>by
  simp only[nP]at h
  split at h
  case h_2=>simp at h
  rename_i o f g d e
  split at h
  case h_2=>simp at h
  rename_i o' hf;simp at h;obtain⟨rfl,rfl⟩:=h;obtain⟨i1,i2,i3⟩:=P9 bs e;refine⟨?_,?_,by simp[i3]⟩
  ·intro p a;rcases hV.1 a with rfl|a
   ·exact d
   ·exact i1 p a
  ·intro p a;rcases hV.1 a with rfl|a
   ·refine⟨(hR.1 d).1,fun c=>?_⟩;simp only at c;have:=P8 hf;rw[c]at this;simp[pL]at this
   ·exact i2 p a
theorem avm{w:dp}{ad aJ ai:Nat->Prop}{β:Bd}{H0 H:ak}{a:AV}{pv:PV}{bs:List Nat}{v:dd}(d:pZ H0 a=some (pv,bs))(aA:∀b∈bs,H[b]?=H0[b]?)(n:cK P w ad β H ai)(e:aD P w ad β H a v)
 (hi:∀k,ad k->aJ k)(r:∀b∈bs,aJ (β.az b)):aH P w aJ pv v:=by
 cases a with
 |p t=>
  simp[pZ]at d;obtain⟨rfl,rfl⟩:=d;simp only[aD]at e;exact aH.mono hi (fun _ _=>rfl) _ _ e
 |sl b aF an off len=>
  simp only[pZ]at d
  split at d
  case h_2=>simp at d
  rename_i k R L g l
  split at d
  case isFalse=>simp at d
  rename_i E;obtain⟨rfl,rfl,Q⟩:=E
  split at d
  ·simp at d
  ·rename_i hn
   split at d
   case h_2=>simp at d
   rename_i y G;simp at d;obtain⟨rfl,rfl⟩:=d;have x:=po G;have f:H[b]?=some (.arr k aF an g):=by rw[aA b s_];exact l
   have j:=r b s_;simp only[aD,cg,cG]at e;obtain⟨v1,v2,v3⟩:=e.2 k g f;rcases n.dQ b _ f with hold|⟨cs,T,z,rest,i,h,q,C,M,D,N,O⟩
   ·exact(hn hold).elim
   rw[v3 hn];have I:Row P w aJ β H an g z:=b9.mono hi (fun _ _=>rfl) (cZ.refl _ _) _ _ _ (n.refs b _ f) h;obtain⟨a,m,c,e1,e2,e3,e4,e5⟩:=qq I off len v1;rw[x,F0,pq]at e2;have u:((y.drop off).take len).length=len:=by
    have:g.length=y.length:=by rw[x];simp
    simp;omega
   simp only[aH];refine⟨β.az b,off*an,β.cap b-off,an,m,e2,fun _=>j,?_,?_,?_,none,.inl rfl,?_⟩
   ·rw[<-e3];exact pc i (post:=c.flatten++rest) (by rw[q,e1];simp)
   ·intro hf;simp at hf;rw[u,D hf.1];omega
   ·rw[u];omega
   ·rw[u]
 |ptr b path=>
  simp only[pZ]at d
  split at d
  case h_2=>simp at d
  rename_i fz t l
  split at d
  case h_2=>simp at d
  rename_i s hs;simp at d;obtain⟨rfl,rfl⟩:=d;have f:H[b]?=some (.box fz (.p t)):=by rw[aA b s_];exact l
  have j:=r b s_;simp only[aD,cg,cG]at e;obtain⟨_,K,J,o,rfl,F,e⟩:=e;obtain⟨rfl,rfl⟩:=e ⟨_,f,rfl⟩;obtain⟨cs,T,i,h,q,C⟩:=n.dQ b _ f;have B:bc P w aJ t cs.toList:=by simp only[bG]at h;exact bc.mono hi (fun _ _=>rfl) _ _ h
  obtain⟨pre,xs,post,e1,e2,e3⟩:=Da B hs F;simp only[aH];refine⟨β.az b,J,xs,e3,j,?_,rfl⟩;rw[<-e2];exact pc i e1
 |map b=>
  simp only[pZ]at d
  split at d
  case h_2=>simp at d
  rename_i fz g l;simp at d;obtain⟨rfl,rfl⟩:=d;have f:H[b]?=some (.map fz g):=by rw[aA b s_];exact l
  have j:=r b s_;simp only[aD,cg,cG]at e;have e:=e.2.1 ⟨_,f,rfl⟩;obtain⟨A,clock,i,h,q⟩:=n.dQ b _ f;simp only[aH];exact⟨β.az b,A,clock,j,i,dB.mono hi (fun _ _=>rfl) _ _ h,e⟩
 |cM=>simp[pZ]at d
 |func=>simp[pZ]at d
 |st=>simp[pZ]at d
 |aE=>simp[pZ]at d
theorem PM{w:dp}{ad aJ ai:Nat->Prop}{β:Bd}{H0 H:ak}:∀{l:List AV}{vs:List PV}{bs:List Nat}{d:List dd},sx H0 l=some (vs,bs)->(∀b∈bs,H[b]?=H0[b]?)->cK P w ad β H ai->bX P w ad β H l d->
 (∀k,ad k->aJ k)->(∀b∈bs,aJ (β.az b))->bY P w aJ vs d
 |[],vs,bs,d,h,_,_,c,_,_=>by
  simp[sx]at h;obtain⟨rfl,rfl⟩:=h;simp only[bX]at c;simpa[bY]using c
 |a::l,vs,bs,d,h,aA,f,c,hi,e=>by
  simp only[sx]at h
  split at h
  case h_2=>simp at h
  rename_i v m o n g i;simp at h;obtain⟨rfl,rfl⟩:=h;simp only[bX]at c;obtain⟨y,j,rfl,k1,k2⟩:=c;simp only[bY];exact⟨y,j,rfl,avm g (fun b hx=>aA b (by simp[hx])) f k1 hi (fun b hx=>e b (by simp[hx])),PM i (fun b hx=>aA b (by simp[hx])) f k2 hi (fun b hx=>e b (by simp[hx]))⟩
def Act(P:c9)(n:Nat)(o:Oper)(s:St)(e:bg):Prop:=
 ∀(fr:ea)(k:List Item)(cs:List ea)(a:Array Oper)(i:Nat)(r:List Nat)(b:List ec)(ai ad:Nat->Prop)(β:Bd)(s':St)(t:Array dd)(w:dp),
  a[i]?=some o->g9 o (yielded a t)=true->ld n o=true->dj P n ai ad β s' t w->(∀x∈o.op.operands,ev s'.env x=ev s.env x)->
  (∀p∈e.aA,s'.heap[p.1]?=some p.2)->(∀j,j<e.bm.length->s'.heap[s.heap.length+j]?=some .hole)->
  ∃aJ aR c w',eo P (lone (bJ fr t b (.inRegion a (i::r)::k)) cs w) (lone (bJ fr c b (.inRegion a r::k)) cs w')/\
   dj P n ai aJ aR ⟨put o.dst e.v s'.env,bu s'.heap (e.aW++newAt s.heap.length e.bm)⟩ c w'/\∀N,fa N ai ad w β s'.heap ai aJ w' aR (bu s'.heap (e.aW++newAt s.heap.length e.bm))
theorem amr{o:Oper}{K:bg->Prop}{s:St}(h:lS P aq o s K)(c:Call):o.op≠.defer c:=by
 intro hc;unfold lS at h;rw[hc]at h;simp[gO,hc]at h
theorem S7{e e':Env}{l:List dg}(h:∀x∈l,ev e' x=ev e x):l.map (ev e')=l.map (ev e):=kf h
theorem QP{o:Oper}{f:dg}{G:Array dg}{an:Array da}{g:dl}{I H:List AV}{K:bg->Prop}{s:St}
 (X:o.op=.call {callee:=.value f,args:=G,argTypes:=an})
 (hf:(ev s.env f=.func g I H)\/(∃a b,ev s.env f=.p (.func g a b)/\I=a.map .p/\H=b.map .p))
 (h:mw P g (I++G.toList.map (ev s.env)++H) s.heap K):
 ∃e,K e/\(∀p∈e.aA,s.heap[p.1]?=some p.2)/\(∀p∈e.aW,p.1<s.heap.length/\p.2≠.hole)/\Act P n o s e:=by
 have R:∀c,o.op≠.defer c:=fun c hc=>by rw[X]at hc;cases hc
 have ac:f∈o.op.operands/\∀x∈G.toList,x∈o.op.operands:=by
  rw[X];simp[gg,e9];exact fun x hx=>.inr hx
 have O:∀{ai ad:Nat->Prop}{β:Bd}{s':St}{t:Array dd}{w:dp},dj P n ai ad β s' t w->(∀x∈o.op.operands,ev s'.env x=ev s.env x)->
  ∃m:List dd,bX P w ad β s'.heap (I++G.toList.map (ev s.env)++H) m/\bk (aQ s'.heap) (I++G.toList.map (ev s.env)++H)/\(dq (gS t) o).run P w=(callFunc g m.toArray).run P w:=by
  intro ai ad β s' t w d A;have J:=sc d f;rw[A f ac.1]at J;obtain⟨F,cv,ax,aw,au,aC,aB⟩:∃F cv:List dd,gS t f=.func (.func g) F.toArray cv.toArray/\bX P w ad β s'.heap I F/\bX P w ad β s'.heap H cv/\bk (aQ s'.heap) I/\bk (aQ s'.heap) H:=by
   rcases hf with hf|⟨a,b,hf,rfl,rfl⟩
   ·rw[hf]at J;simp only[aD,aI]at J;obtain⟨⟨F,cv,y,z,D⟩,T,aq⟩:=J;exact⟨F,cv,D,y,z,T,aq⟩
   ·rw[hf]at J;simp only[aD,aH]at J;obtain⟨⟨F,cv,y,z,D⟩,_⟩:=J;exact⟨F,cv,D,l9.2 y,l9.2 z,kU _ _,kU _ _⟩
  obtain⟨Z,aa⟩:=Aa d G.toList;rw[S7 (fun x hx=>A x (ac.2 x hx))]at Z aa;refine⟨F++G.toList.map (gS t)++cv,uJ (uJ aw Z) au,qp (qp aC aa) aB,?_⟩;simp only[dq,X,resolve,ax,Deferred.ofValue,hE,hF,hC,invoke];congr 2;simp
 have aj:∀(fr:ea)(k:List Item)(cs:List ea)(l:Array Oper)(i:Nat)(r:List Nat)(u:List ec)(ai ad E:Nat->Prop)(β:Bd)(s':St)(t:Array dd)(w:dp)(H1:ak)(m:List dd)(vs:List PV)(v:PV),
  l[i]?=some o->g9 o (yielded l t)=true->ld n o=true->dj P n ai ad β s' t w->(dq (gS t) o).run P w=(callFunc g m.toArray).run P w->
  cF P ai ad w β s'.heap E w β H1->bY P w E vs m->al P g vs v->
  ∃aJ aR am w',eo P (lone (bJ fr t u (.inRegion l (i::r)::k)) cs w) (lone (bJ fr am u (.inRegion l r::k)) cs w')/\
   dj P n ai aJ aR ⟨put o.dst (.p v) s'.env,H1⟩ am w'/\∀N,fa N ai ad w β s'.heap ai aJ w' aR H1:=by
  intro fr k cs l i r u ai ad E β s' t w H1 m vs v q C B d Q j ag M;rcases M with⟨av,M⟩|M
  ·rw[av]at Q;obtain⟨e,w',ao,⟨S,aJ,V,g1,g2,g3,g4,g5,ap,g6⟩,aY,ay,W⟩:=M w E _ j.rel.cq j.rel.lT ag (bJ fr t u (.inRegion l (i::r)::k)::cs);subst V;have af:=j.trans (j.rel.later g1 g2 g3 g4 g5 ap);refine⟨aJ,β,_,w',?_,d.put B af (by simpa[aD]using g6) (by simp[aI]),fun _=>af.gA⟩;rw[<-rG q];exact(hH (zL q C R Q)).trans (hJ aY (.one (ed W)))
  ·obtain⟨S,y,z⟩:=M w E _ ag;rw[y]at Q;exact⟨E,β,_,w,.one (wY q C R Q (.inl rfl)),d.put B j (by simpa[aD]using z) (by simp[aI]),fun _=>j.gA⟩
 rcases h with⟨vs,v,y,z,D⟩|⟨vs,bs,aA,aW,v,y,z,D,T⟩|⟨e,Y,ae,U⟩|⟨aA,v,ar,az,U⟩
 ·refine⟨_,D,s_,s_,?_⟩;intro fr k cs l i r u ai ad β s' t w q C B d A _ _;obtain⟨m,c1,c2,c3⟩:=O d A;rw[y]at c1;simp only[newAt,hZ,bu];exact aj fr k cs l i r u ai ad ad β s' t w s'.heap m vs v q C B d c3 (cF.refl d.heap) (l9.1 c1) z
 ·obtain⟨i1,i2,i3⟩:=P9 bs z;refine⟨_,T,i1,i2,?_⟩;intro fr k cs l i r u ai ad β s' t w q C B d A L _;obtain⟨m,c1,c2,c3⟩:=O d A;obtain⟨E,ah,aE⟩:=OG bs z d.heap (fun p j=>⟨p.2,L p j,rfl⟩);simp only[newAt,hZ];refine aj fr k cs l i r u ai ad E β s' t w _ m vs v q C B d c3 ah (PM y ?_ d.heap c1 ah.cq aE) D;intro b ab;rw[<-i3]at ab;obtain⟨p,j,rfl⟩:=j6.1 ab;rw[L p j,i1 p j]
 ·refine⟨_,U,ae.1,ae.2,?_⟩;intro fr k cs l i r u ai ad β s' t w q C B d A L bm;obtain⟨m,c1,c2,c3⟩:=O d A;rw[Y.1]at c3;obtain⟨x,w',ao,⟨S,aR,aJ,V,g1,g2,g3⟩,aY,ay,W⟩:=Y.2 s'.heap w ad ai β _ d.heap c1 c2 L bm (bJ fr t u (.inRegion l (i::r)::k)::cs);subst V;refine⟨aJ,aR,_,w',?_,d.put B g1 g2 g3,fun _=>g1.gA⟩;rw[<-rG q];exact(hH (zL q C R c3)).trans (hJ aY (.one (ed W)))
 ·refine⟨_,U,az,s_,?_⟩;intro fr k cs l i r u ai ad β s' t w q C B d A L bm;obtain⟨m,c1,c2,c3⟩:=O d A;obtain⟨S,y,D⟩:=ar s'.heap w ad ai β _ d.heap c1 c2 L;rw[y]at c3;have j:=cF.refl d.heap;simp only[newAt,hZ,bu];exact⟨ad,β,_,w,.one (wY q C R c3 (.inl rfl)),d.put B j (by simpa[aD]using D) (by simp[aI]),fun _=>j.gA⟩
theorem arj{o:Oper}{f:dg}{a:Array dg}{y:Array da}{b:Nat}{e:bg}{s:St}
 (j:o.op=.call {callee:=.value f,args:=a,argTypes:=y})(hf:ev s.env f=.map b)(hY:sy P b (a.toList.map (ev s.env)) s.heap.length e):Act P n o s e:=by
 have G:∀c,o.op≠.defer c:=fun c hc=>by rw[j]at hc;cases hc
 have u:f∈o.op.operands/\∀x∈a.toList,x∈o.op.operands:=by
  rw[j];simp[gg,e9];exact fun x hx=>.inr hx
 intro fr k cs I i r z ai ad β s' t w v H C d m E bm;have h:=(sc d f).1;rw[m f u.1,hf]at h;simp only[aD,cg,cG]at h;obtain⟨l,p⟩:=Aa d a.toList;rw[S7 (fun x hx=>m x (u.2 x hx))]at l p;obtain⟨F,g,tmps,assign,body,A,B⟩:=hY s'.heap w ad ai β _ d.heap l p E bm;have D:=h.2.2 F;have q:(dq (gS t) o).run P w=(Instr.yield (β.az b) (a.toList.map (gS t)).toArray).run P w:=by
  simp only[dq,j,resolve,D,Deferred.ofValue,hE,hF,hC,invoke];congr 2;exact b2 s_
 rw[A]at q;obtain⟨cv,w',aR,aJ,g1,g2,g3,g4⟩:=B (bJ fr t z (.inRegion I (i::r)::k)) cs;refine⟨aJ,aR,_,w',?_,d.put C g2 g3 g4,fun _=>g2.gA⟩;rw[<-rG v];exact(hH (O2 v H G q)).trans g1
theorem auF(u:o7 P aq){o:Oper}{K:bg->Prop}{s:St}(h:lS P aq o s K):
 ∃e,K e/\(∀p∈e.aA,s.heap[p.1]?=some p.2)/\(∀p∈e.aW,p.1<s.heap.length/\p.2≠.hole)/\Act P n o s e:=by
 have G:=amr h;have y:gO P aq o (ev s.env) s.heap K->∃e,K e/\(∀p∈e.aA,s.heap[p.1]?=some p.2)/\(∀p∈e.aW,p.1<s.heap.length/\p.2≠.hole)/\Act P n o s e:=by
  intro h;obtain⟨e,a,hs,aA,aW⟩:=u o _ _ _ (fun v=>rfl) h;refine⟨e,a,aA,aW,?_⟩;intro fr k cs M i r L ai ad β s' t w H I E d D F bm;obtain⟨nx,cv,w',aR,aJ,z,A,m,B,C⟩:=hs s'.heap w ad ai β (gS t) d.heap (fun x hx=>by rw[<-D x hx];exact sc d x) F bm;exact⟨aJ,aR,_,w',.one (wY H I G z A),d.put E m B C,fun _=>m.gA⟩
 unfold lS at h
 split at h
 ·rename_i f args J c
  split at h
  ·rename_i g l j hf;exact QP c (.inr ⟨l,j,hf,rfl,rfl⟩) h
  ·rename_i g l j hf;exact QP c (.inl hf) h
  ·rename_i b hf;obtain⟨e,hY,q,a⟩:=h;exact⟨e,a,q.1,q.2,arj c hf hY⟩
  ·exact h.elim
 ·exact y h
end
section
variable{P:c9}{aq:dl->Bool}{n:Nat}
def looks(a:Array Oper)(o:Oper):List Tmp:=
 (o.op.operands.toList.filterMap fun x=>match x with
  | .tmp t=>some t
  |_=>none)++(match o.guard with
  |some (j,_)=>(match(a[j]?).bind (·.dst)with
   |some d=>[d]
   |none=>[])
  |none=>[])
def uT(c:Array Oper)(a b:Oper):Bool:=
 (match a.dst with
  |some d=>(looks c b).contains d||b.dst==some d
  |none=>false)||
 (match b.dst with
  |some d=>(looks c a).contains d
  |none=>false)
def fit(_:Nat)(a:Array Oper):Bool:=
 (h6 a.size).all fun j=>match a[j]? with
  |some o=>o.after.toList.all (fun e=>!hd .any e||decide (e.on<j))&&
   (h6 j).all (fun i=>match a[i]? with
    |some u=>!uT a u o||reach a a.size i j
    |none=>true)
  |none=>true
structure Ih(P:c9)(n:Nat)(ops:Array Oper)(o:Oper)(s:St)(e:bg):Prop where
 aA:∀p∈e.aA,s.heap[p.1]?=some p.2
 aW:∀p∈e.aW,p.1<s.heap.length
 act:(∀(t:Array dd)(s':St)(ai ad:Nat->Prop)(β:Bd)(w:dp),dj P n ai ad β s' t w->(∀x∈looks ops o,aV s'.env x=aV s.env x)->g9 o (yielded ops t)=true)/\Act P n o s e\/
  (∀(t:Array dd)(s':St)(ai ad:Nat->Prop)(β:Bd)(w:dp),dj P n ai ad β s' t w->(∀x∈looks ops o,aV s'.env x=aV s.env x)->g9 o (yielded ops t)=false)/\e={v:=.p (.aE [])}
inductive Tr(P:c9)(n:Nat)(ops:Array Oper):List Oper->Nat->St->List (St×bg)->St->Prop
 |nil (i:Nat) (s:St):Tr P n ops [] i s [] s
 |cons {o:Oper} {r:List Oper} {i:Nat} {s s':St} {e:bg} {es:List (St×bg)}:Ih P n ops o s e->Tr P n ops r (i+1) (e.app o.dst s) es s'->Tr P n ops (o::r) i s ((s,e)::es) s'
def tD(i:Nat):List (St×bg)->List Touch->List Touch
 |[],acc=>acc
 |(s,e)::r,acc=>tD (i+1) r (iH i s.heap.length e acc)
theorem FZ{a:Array Oper}{o:Oper}{j:Nat}{f:Bool}(c:o.guard=some (j,f)){e e':Env}(h:∀x∈looks a o,aV e' x=aV e x):guardOf a j e'=guardOf a j e:=by
 unfold guardOf;cases b:(a[j]?).bind (·.dst)with
 |none=>rfl
 |some d=>
  simp only;exact h d (by simp[looks,c,b])
theorem Qo(B:o7 P aq){a:Array Oper}(q:∀o∈a.toList,ld n o=true):∀(l:List Oper)(i:Nat)(d:List Touch)(s:St){K:St->Prop},(∀o∈l,o∈a.toList)->iG P aq a l i d K s->
 ∃c s',Tr P n a l i s c s'/\K s'/\jY a (tD i c d)=true
 |[],i,d,s,K,_,h=>⟨[],s,.nil i s,h.2,h.1⟩
 |o::l,i,d,s,K,F,h=>by
  have C:=fun d s(h:iG P aq a l (i+1) d K s)=>Qo B q l (i+1) d s (fun o G=>F o (by simp[G])) h
  have skip:iG P aq a l (i+1) d K ⟨put o.dst (.p (.aE [])) s.env,s.heap⟩->(∀(t:Array dd)(s':St)(ai ad:Nat->Prop)(β:Bd)(w:dp),dj P n ai ad β s' t w->(∀x∈looks a o,aV s'.env x=aV s.env x)->g9 o (yielded a t)=false)->
   ∃c s',Tr P n a (o::l) i s c s'/\K s'/\jY a (tD i c d)=true:=by
   intro hk A;obtain⟨c,s',r,u,y⟩:=C _ _ hk;refine⟨(s,{v:=.p (.aE [])})::c,s',.cons ⟨s_,s_,.inr ⟨A,rfl⟩⟩ ?_,u,by simpa[tD,iH]using y⟩;simpa[bg.app,bu]using r
  have go:lS P aq o s (fun e=>iG P aq a l (i+1) (iH i s.heap.length e d) K (e.app o.dst s))->(∀(t:Array dd)(s':St)(ai ad:Nat->Prop)(β:Bd)(w:dp),dj P n ai ad β s' t w->(∀x∈looks a o,aV s'.env x=aV s.env x)->g9 o (yielded a t)=true)->
   ∃c s',Tr P n a (o::l) i s c s'/\K s'/\jY a (tD i c d)=true:=by
   intro hk A;obtain⟨e,D,aA,aW,E⟩:=auF (n:=n) B hk;obtain⟨c,s',r,u,y⟩:=C _ _ D;exact⟨(s,e)::c,s',.cons ⟨aA,fun p H=>(aW p H).1,.inl ⟨A,E⟩⟩ r,u,by simpa[tD]using y⟩
  simp only[iG]at h
  split at h
  ·rename_i f;exact go h (fun _ _ _ _ _ _ _ _=>by simp[g9,f])
  ·rename_i j I f
   split at h
   ·rename_i b m
    split at h
    ·rename_i z;refine go h (fun t s' ai ad β w k g=>?_);obtain⟨g1,g2⟩:=CF k q j;rw[FZ f g]at g1;simp[g9,f,g1 _ m,z]
    ·rename_i z;refine skip h (fun t s' ai ad β w k g=>?_);obtain⟨g1,g2⟩:=CF k q j;rw[FZ f g]at g1;simp[g9,f,g1 _ m,z]
   ·rename_i m;refine skip h (fun t s' ai ad β w k g=>?_);obtain⟨g1,g2⟩:=CF k q j;rw[FZ f g]at g2;simp[g9,f,g2 m]
   ·exact h.elim
def AR(a:Array Oper)(D:Nat->Prop):Prop:=∀j o,a[j]?=some o->D j->∀e∈o.after,hd .any e=true->D e.on
theorem Gb{c:Array Oper}{D:Nat->Prop}(hc:AR c D):∀(f i j:Nat),reach c f i j=true->(∀o,c[j]?=some o->∀e∈o.after,hd .any e=true->D e.on)->D i
 |0,_,_,h,_=>by simp[reach]at h
 |f+1,i,j,h,d=>by
  simp only[reach]at h
  split at h
  case h_2=>simp at h
  rename_i o g;simp only[c6,ii,ck,beq_iff_eq,decide_eq_true_eq]at h;rcases h with⟨e,b,a,rfl⟩|⟨e,b,⟨a,_⟩,k⟩
  ·exact d o g e (by simpa using b) a
  ·have m:=d o g e (by simpa using b) a;exact Gb hc f i e.on k (fun o' p e' n l=>hc _ o' p m e' n l)
end
section
variable{P:c9}{aq:dl->Bool}{n:Nat}
theorem xk(a:Nat)(l:List Obj):(newAt a l).map (·.1)=rX a l:=by
 induction l generalizing a with
 |nil=>rfl
 |cons o l b=>simp[newAt,rX,b]
theorem Ok{a b:Nat}{l:List Obj}:b∈rX a l↔a<=b/\b<a+l.length:=by
 induction l generalizing a with
 |nil=>simp[rX]
 |cons o l c=>simp only[rX,hV,c,List.length_cons];omega
theorem CO{l:List (Nat×Obj)}{b:Nat}(h:b∉l.map (·.1)):∀H:ak,(bu H l)[b]?=H[b]?:=by
 induction l with
 |nil=>intro H;rfl
 |cons p l a=>
  obtain⟨c,o⟩:=p;intro H;simp only[hX,hV,not_or]at h;simp only[bu];rw[a h.2,h5 (lz h.1)]
theorem aqu{l:List (Nat×Obj)}{b:Nat}(h:b∈l.map (·.1)):∀H H':ak,H.length=H'.length->(bu H l)[b]?=(bu H' l)[b]?:=by
 induction l with
 |nil=>simp at h
 |cons p l f=>
  obtain⟨c,o⟩:=p;intro H H' d;simp only[bu]
  by_cases a:b∈l.map (·.1)
  ·exact f a _ _ (by simp[d])
  ·rw[CO a,CO a];simp only[hX,hV]at h;have:b=c:=h.resolve_right a;subst this
   by_cases e:b<H.length
   ·rw[hT e,hT o_]
   ·rw[iB (by simp;omega),iB (by simp;omega)]
def dL(es:List (St×bg))(s':St)(k:Nat):St:=match es[k]? with
 |some (s,_)=>s
 |none=>s'
def gT(es:List (St×bg))(k:Nat):bg:=match es[k]? with
 |some (_,e)=>e
 |none=>{v:=.p .undef}
theorem Tr.at{a:Array Oper}:∀{l:List Oper}{i:Nat}{s s':St}{es:List (St×bg)},Tr P n a l i s es s'->es.length=l.length/\dL es s' 0=s/\
 ∀k o,l[k]?=some o->Ih P n a o (dL es s' k) (gT es k)/\dL es s' (k+1)=(gT es k).app o.dst (dL es s' k)
 |_,_,_,_,_,.nil i s=>⟨rfl,rfl,fun k o h=>by simp at h⟩
 |_,_,_,_,_,.cons (o:=o) (r:=r) (i:=i) (s:=s) (s':=s') (e:=e) (es:=es) hi d=>by
  obtain⟨h1,b,c⟩:=d.at;refine⟨by simp[h1],rfl,fun k o' hk=>?_⟩;cases k with
  |zero=>
   simp at hk;subst hk;refine⟨by simpa[dL,gT]using hi,?_⟩;have:dL ((s,e)::es) s' (0+1)=dL es s' 0:=by simp[dL]
   rw[this,b];simp[dL,gT]
  |succ k=>
   have e1:∀m,dL ((s,e)::es) s' (m+1)=dL es s' m:=fun m=>by simp[dL]
   have e2:gT ((s,e)::es) (k+1)=gT es k:=by simp[gT]
   rw[e1,e1,e2];exact c k o' (by simpa using hk)
theorem an7(u:Touch)(i:Nat):lN u ⟨i,[],[]⟩=false:=by
 simp[lN]
theorem Z3(i b:Nat)(e:bg)(a:List Touch):(iH i b e a=a/\jb i b e=⟨i,[],[]⟩)\/iH i b e a=jb i b e::a:=by
 unfold iH
 split
 ·rename_i c d f;exact .inl ⟨rfl,by simp[jb,c,d,f,rX]⟩
 ·exact .inr rfl
theorem O1{c:Array Oper}:∀(g:List (St×bg))(i:Nat)(d:List Touch),jY c (tD i g d)=true->jY c d=true/\
 (∀u∈d,∀b s e,g[b]?=some (s,e)->lN u (jb (i+b) s.heap.length e)=true->reach c c.size u.i (i+b)=true)/\
 (∀a b s e f e2,a<b->g[a]?=some (s,e)->g[b]?=some (f,e2)->lN (jb (i+a) s.heap.length e) (jb (i+b) f.heap.length e2)=true->reach c c.size (i+a) (i+b)=true)
 |[],i,d,h=>⟨h,s_,s_⟩
 |(s,e)::g,i,d,h=>by
  simp only[tD]at h;obtain⟨j,m,r⟩:=O1 g (i+1) _ h
  have key:jY c d=true/\(∀u∈d,lN u (jb i s.heap.length e)=true->reach c c.size u.i i=true)/\(∀u∈d,∀b s e,g[b]?=some (s,e)->lN u (jb (i+1+b) s.heap.length e)=true->reach c c.size u.i (i+1+b)=true)/\
   (∀b f e2,g[b]?=some (f,e2)->lN (jb i s.heap.length e) (jb (i+1+b) f.heap.length e2)=true->reach c c.size i (i+1+b)=true):=by
   rcases Z3 i s.heap.length e d with⟨o,q⟩|o
   ·rw[o]at j m;refine⟨j,fun u _ hc=>?_,m,fun b f e2 _ hc=>?_⟩
    ·rw[q,an7]at hc;cases hc
    ·rw[q]at hc;simp[lN]at hc
   ·rw[o]at j m;simp only[jY,ck,h8]at j;refine⟨j.2,fun u l hc=>?_,fun u l=>m u (by simp[l]),m _ s_⟩;have:=j.1 u l;rw[hc]at this;exact(by simpa using this:reach c c.size u.i (jb i s.heap.length e).i=true)
  obtain⟨k1,k2,k3,k4⟩:=key;refine⟨k1,?_,?_⟩
  ·intro u l b p e1 k hc;cases b with
   |zero=>simp at k;obtain⟨rfl,rfl⟩:=k;exact k2 u l hc
   |succ b=>
    have:=k3 u l b p e1 (by simpa using k);rw[show i+(b+1)=i+1+b by omega]at hc⊢;exact this hc
  ·intro a b p e1 f e2 t n k hc;cases b with
   |zero=>omega
   |succ b=>
    rw[show i+(b+1)=i+1+b by omega]at hc⊢;cases a with
    |zero=>
     simp at n;obtain⟨rfl,rfl⟩:=n;exact k4 b f e2 (by simpa using k) hc
    |succ a=>
     rw[show i+(a+1)=i+1+a by omega]at hc⊢;exact r a b p e1 f e2 o_ (by simpa using n) (by simpa using k) hc
end
section
variable{P:c9}{aq:dl->Bool}{n:Nat}
def hx(N:Nat)(s:St):ak:=s.heap++hW (N-s.heap.length) .hole
def yM(a:Nat)(e:bg):List Nat:=(e.aW++newAt a e.bm).map (·.1)
theorem aMs{N:Nat}{s:St}{e:bg}{o:Oper}(aW:∀p∈e.aW,p.1<s.heap.length)(d:(e.app o.dst s).heap.length<=N):hx N (e.app o.dst s)=bu (hx N s) (e.aW++newAt s.heap.length e.bm):=by
 have b:(e.app o.dst s).heap=bu s.heap e.aW++e.bm:=rfl;have f:(e.app o.dst s).heap.length=s.heap.length+e.bm.length:=by rw[b];simp[tg]
 unfold hx;rw[b];have c:N-s.heap.length=e.bm.length+(N-(s.heap.length+e.bm.length)):=o_
 rw[c,<-List.replicate_append_replicate,<-ix,Cu _ _ _ (by
  intro p a;rcases j3.1 a with a|a
  ·have:=aW p a;simp;omega
  ·have:p.1∈(newAt s.heap.length e.bm).map (·.1):=i6 a
   rw[xk,Ok]at this;simp;omega)]
 rw[zH,Cu _ _ _ aW];have:=Ga (bu s.heap e.aW) e.bm;rw[tg]at this;rw[this];congr 2;simp[tg]
section sched
variable{ops:Array Oper}{es:List (St×bg)}{s0 s':St}
structure lg(P:c9)(n:Nat)(ops:Array Oper)(es:List (St×bg))(s':St):Prop where
 len:es.length=ops.size
 at_:∀k o,ops[k]?=some o->Ih P n ops o (dL es s' k) (gT es k)/\dL es s' (k+1)=(gT es k).app o.dst (dL es s' k)
 dst:∀o∈ops.toList,ld n o=true
 lower:∀j o,ops[j]?=some o->∀e∈o.after,hd .any e=true->e.on<j
 tmps:∀i j u o,i<j->ops[i]?=some u->ops[j]?=some o->uT ops u o=true->reach ops ops.size i j=true
 heap:∀i j,i<j->j<ops.size->lN (jb i (dL es s' i).heap.length (gT es i)) (jb j (dL es s' j).heap.length (gT es j))=true->reach ops ops.size i j=true
def wr(a:List (St×bg))(s':St)(i:Nat):List Nat:=yM (dL a s' i).heap.length (gT a i)
structure At(ops:Array Oper)(es:List (St×bg))(s':St)(D:Nat->Prop)(s:St):Prop where
 tmp:∀x,∃k,k<=ops.size/\aV s.env x=aV (dL es s' k).env x/\∀i o,ops[i]?=some o->o.dst=some x->(D i↔i<k)
 len:s.heap.length=s'.heap.length
 heap:∀b,∃k,k<=ops.size/\s.heap[b]?=(hx s'.heap.length (dL es s' k))[b]?/\∀i,i<ops.size->b∈wr es s' i->(D i↔i<k)
variable(h:lg P n ops es s')
include h
theorem lg.mono:∀{k m:Nat},k<=m->m<=ops.size->(dL es s' k).heap.length<=(dL es s' m).heap.length:=by
 intro k m e f
 induction m with
 |zero=>
  obtain rfl:k=0:=o_
  exact kW _
 |succ m c=>
  by_cases hk:k=m+1
  ·subst hk;exact kW _
  ·have d:=c o_ o_;have b:ops[m]?=some ops[m]:=b1 o_;obtain⟨_,a⟩:=h.at_ m _ b;rw[a];simp only[bg.app,hU,tg];omega
theorem lg.last:dL es s' ops.size=s':=by
 have:es[ops.size]?=none:=iB (by rw[h.len];exact kW _);simp[dL,this]
theorem lg.Br{k:Nat}(hk:k<=ops.size):(dL es s' k).heap.length<=s'.heap.length:=by
 have:=h.mono hk (kW _)
 rwa [h.last]at this
theorem lg.jg{k:Nat}(hk:k<ops.size):hx s'.heap.length (dL es s' (k+1))=bu (hx s'.heap.length (dL es s' k)) ((gT es k).aW++newAt (dL es s' k).heap.length (gT es k).bm):=by
 have c:ops[k]?=some ops[k]:=b1 hk;obtain⟨h1,b⟩:=h.at_ k _ c;have a:=h.Br (k:=k+1) hk;rw[b]at a⊢;exact aMs h1.aW a
theorem aMr{k:Nat}(hk:k<=ops.size):(hx s'.heap.length (dL es s' k)).length=s'.heap.length:=by
 have:=h.Br hk;simp[hx];omega
theorem lg.Qp{x:Nat}:∀{k m:Nat},k<=m->m<=ops.size->(∀i o,k<=i->i<m->ops[i]?=some o->o.dst≠some x)->aV (dL es s' m).env x=aV (dL es s' k).env x:=by
 intro k m j
 induction m with
 |zero=>
  intro _ _;obtain rfl:k=0:=o_
  rfl
 |succ m g=>
  intro l d
  by_cases hk:k=m+1
  ·subst hk;rfl
  ·have e:=g o_ o_ (fun i o a b=>d i o a o_);have c:ops[m]?=some ops[m]:=b1 o_;obtain⟨_,f⟩:=h.at_ m _ c;rw[f];simp only[bg.app,zX];rw[if_neg (d m _ o_ o_ c)];exact e
theorem lg.P3{b:Nat}:∀{k m:Nat},k<=m->m<=ops.size->(∀i,k<=i->i<m->b∉wr es s' i)->(hx s'.heap.length (dL es s' m))[b]?=(hx s'.heap.length (dL es s' k))[b]?:=by
 intro k m f
 induction m with
 |zero=>
  intro _ _;obtain rfl:k=0:=o_
  rfl
 |succ m e=>
  intro g c
  by_cases hk:k=m+1
  ·subst hk;rfl
  ·have d:=e o_ o_ (fun i a b=>c i a o_);rw[h.jg o_,CO (c m o_ o_)];exact d
theorem lg.Rv{x:Nat}{k m:Nat}(hk:k<=ops.size)(g:m<=ops.size)(f:∀i o,ops[i]?=some o->o.dst=some x->(i<k↔i<m)):aV (dL es s' m).env x=aV (dL es s' k).env x:=by
 rcases lv k m with d|d
 ·exact h.Qp d g fun i o a b e c=>by have:=f i o e c;omega
 ·exact(h.Qp d hk fun i o a b e c=>by have:=f i o e c;omega).symm
theorem lg.Rh{b:Nat}{k m:Nat}(hk:k<=ops.size)(g:m<=ops.size)(f:∀i,i<ops.size->b∈wr es s' i->(i<k↔i<m)):(hx s'.heap.length (dL es s' m))[b]?=(hx s'.heap.length (dL es s' k))[b]?:=by
 rcases lv k m with e|e
 ·exact h.P3 e g fun i a c d=>by have:=f i o_ d;omega
 ·exact(h.P3 e hk fun i a c d=>by have:=f i o_ d;omega).symm
variable{D:Nat->Prop}(hc:AR ops D)
include hc
theorem lg.order{i:Nat}{o:Oper}(k:ops[i]?=some o)(h:¬D i)(l:∀e∈o.after,hd .any e=true->D e.on):
 (∀j,j<i->reach ops ops.size j i=true->D j)/\(∀j,j<ops.size->i<j->reach ops ops.size i j=true->¬D j):=by
 constructor
 ·intro j g b;exact Gb hc _ _ _ b (fun o' a=>by rw[k]at a;cases a;exact l)
 ·intro j m g b d;exact h (Gb hc _ _ _ b (fun o' a e f c=>hc j o' a d e f c))
theorem lg.reads{i:Nat}{o:Oper}(l:ops[i]?=some o)(q:¬D i)(y:∀e∈o.after,hd .any e=true->D e.on){s:St}(t:At ops es s' D s):
 (∀x∈looks ops o,aV s.env x=aV (dL es s' i).env x)/\(∀b,b∈(gT es i).aA.map (·.1)\/b∈wr es s' i->s.heap[b]?=(hx s'.heap.length (dL es s' i))[b]?):=by
 obtain⟨v,w⟩:=h.order hc l q y;have hi:i<ops.size:=(b0.1 l).1;constructor
 ·intro x hx;obtain⟨k,k1,k2,k3⟩:=t.tmp x;rw[k2];refine h.Rv o_ k1 fun j u m p=>?_;have g:j<ops.size:=(b0.1 m).1;rw[<-k3 j u m p];constructor
  ·intro a;refine v j a (h.tmps j i u o a m l ?_);simp[uT,p,hx]
  ·intro f;rcases lc j i with a|rfl|a
   ·exact a
   ·exact(q f).elim
   ·exact(w j g a (h.tmps i j o u a l m (by simp[uT,p,hx])) f).elim
 ·intro b c;obtain⟨k,k1,k2,k3⟩:=t.heap b;rw[k2];refine h.Rh o_ k1 fun j g n=>?_;rw[<-k3 j g n];have r:b∈(jb j (dL es s' j).heap.length (gT es j)).wr:=by
   unfold wr yM at n;rw[h9,xk]at n;exact n
  have d:b∈(jb i (dL es s' i).heap.length (gT es i)).rd\/b∈(jb i (dL es s' i).heap.length (gT es i)).wr:=by
   rcases c with c|c
   ·exact .inl c
   ·unfold wr yM at c;rw[h9,xk]at c;exact .inr c
  constructor
  ·intro a;refine v j a (h.heap j i a hi ?_);simp only[lN,c6,ii,ih];exact .inl ⟨b,r,d⟩
  ·intro f;rcases lc j i with a|rfl|a
   ·exact a
   ·exact(q f).elim
   ·refine(w j g a (h.heap i j a g ?_) f).elim;simp only[lN,c6,ii,ih];rcases d with d|d
    ·exact .inr ⟨b,d,r⟩
    ·exact .inl ⟨b,d,.inr r⟩
theorem lg.next{i:Nat}{o:Oper}(l:ops[i]?=some o)(z:¬D i)(A:∀e∈o.after,hd .any e=true->D e.on){s:St}(p:At ops es s' D s):
 At ops es s' (fun j=>D j\/j=i) ⟨put o.dst (gT es i).v s.env,bu s.heap ((gT es i).aW++newAt (dL es s' i).heap.length (gT es i).bm)⟩:=by
 obtain⟨w,y⟩:=h.order hc l z A;have hi:i<ops.size:=(b0.1 l).1;obtain⟨B,jg⟩:=h.at_ i o l;refine⟨fun x=>?_,by simp only[tg];exact p.len,fun b=>?_⟩
 ·by_cases hx:o.dst=some x
  ·refine⟨i+1,hi,?_,fun j u d n=>?_⟩
   ·rw[jg];simp[bg.app,zX,hx]
   ·have g:j<ops.size:=(b0.1 d).1;constructor
    ·rintro(c|rfl)
     ·rcases lc j i with a|rfl|a
      ·omega
      ·omega
      ·exact(y j g a (h.tmps i j o u a l d (by simp[uT,n,hx])) c).elim
     ·omega
    ·intro a
     by_cases q:j=i
     ·exact .inr q
     ·exact .inl (w j o_ (h.tmps j i u o o_ d l (by simp[uT,n,hx])))
  ·obtain⟨k,k1,k2,k3⟩:=p.tmp x;refine⟨k,k1,?_,fun j u d n=>?_⟩
   ·simp only[zX];rw[if_neg hx];exact k2
   ·rw[<-k3 j u d n];constructor
    ·rintro(c|rfl)
     ·exact c
     ·rw[l]at d;cases d;exact(hx n).elim
    ·exact .inl
 ·by_cases f:b∈wr es s' i
  ·refine⟨i+1,hi,?_,fun j g m=>?_⟩
   ·rw[h.jg hi];exact aqu f _ _ (by rw[aMr h o_];exact p.len)
   ·have t:b∈(jb j (dL es s' j).heap.length (gT es j)).wr:=by
     unfold wr yM at m;rw[h9,xk]at m;exact m
    have r:b∈(jb i (dL es s' i).heap.length (gT es i)).wr:=by
     unfold wr yM at f;rw[h9,xk]at f;exact f
    constructor
    ·rintro(c|rfl)
     ·rcases lc j i with a|rfl|a
      ·omega
      ·omega
      ·refine(y j g a (h.heap i j a g ?_) c).elim;simp only[lN,c6,ii,ih];exact .inl ⟨b,r,.inr t⟩
     ·omega
    ·intro a
     by_cases q:j=i
     ·exact .inr q
     ·refine .inl (w j o_ (h.heap j i o_ hi ?_));simp only[lN,c6,ii,ih];exact .inl ⟨b,t,.inr r⟩
  ·obtain⟨k,k1,k2,k3⟩:=p.heap b;refine⟨k,k1,?_,fun j g m=>?_⟩
   ·simp only;rw[CO f];exact k2
   ·rw[<-k3 j g m];constructor
    ·rintro(c|rfl)
     ·exact c
     ·exact(f m).elim
    ·exact .inl
end sched
end
section
variable{P:c9}{aq:dl->Bool}{n:Nat}
variable{ops:Array Oper}{es:List (St×bg)}{s':St}
theorem dj.congr{ai ad:Nat->Prop}{β:Bd}{s u:St}{t:Array dd}{w:dp}(h:dj P n ai ad β s t w)(b:∀x,aV u.env x=aV s.env x)(a:u.heap=s.heap):dj P n ai ad β u t w:=by
 refine⟨by rw[a];exact h.heap,fun x=>?_,fun x=>?_,h.size⟩
 ·rw[b,a];exact h.env x
 ·rw[b,a];exact h.iR x
theorem dj.tS{ai ad:Nat->Prop}{β:Bd}{s:St}{t:Array dd}{w:dp}(m:Nat)(h:dj P n ai ad β s t w):dj P n ai ad β ⟨s.env,s.heap++hW m .hole⟩ t w:=
 ⟨h.heap.tS m,fun x=>aD.mono (fun _ x=>x) (fun _ _=>rfl) (uI β s.heap m) _ _ (h.iR x) (h.env x),fun x=>aI.mono (rS _ _) _ (h.iR x),h.size⟩
theorem av7{o:Oper}{e e':Env}(h:∀x∈looks ops o,aV e' x=aV e x):∀x∈o.op.operands,ev e' x=ev e x:=by
 intro x hx;cases x with
 |tmp t=>
  simp only[ev];refine h t ?_;simp only[looks,j3,List.mem_filterMap];exact .inl ⟨.tmp t,by simpa using hx,rfl⟩
 |_=>rfl
theorem lg.run(h:lg P n ops es s'){D:Nat->Prop}(hc:AR ops D){i:Nat}{o:Oper}(a:ops[i]?=some o)(v:¬D i)(y:∀e∈o.after,hd .any e=true->D e.on){s:St}(l:At ops es s' D s)
 {fr:ea}{k:List Item}{cs:List ea}{r:List Nat}{ds:List ec}{ai ad:Nat->Prop}{β:Bd}{t:Array dd}{w:dp}(b:dj P n ai ad β s t w):
 ∃u aJ aR d w',eo P (lone (bJ fr t ds (.inRegion ops (i::r)::k)) cs w) (lone (bJ fr d ds (.inRegion ops r::k)) cs w')/\dj P n ai aJ aR u d w'/\(∀N,fa N ai ad w β s.heap ai aJ w' aR u.heap)/\At ops es s' (fun j=>D j\/j=i) u:=by
 obtain⟨r1,z⟩:=h.reads hc a v y l;have hi:i<ops.size:=(b0.1 a).1;obtain⟨q,_⟩:=h.at_ i o a;have c:=h.next hc a v y l;have m:ld n o=true:=h.dst o (by rw[Array.mem_toList_iff];exact Array.mem_of_getElem? a);have G:=h.Br (k:=i) o_;rcases q.act with⟨f,B⟩|⟨f,C⟩
 ·obtain⟨aJ,aR,d,w',A,a2,a3⟩:=B fr k cs ops i r ds ai ad β s t w a (f t s ai ad β w b r1) m b (av7 r1) (by
   intro p x;rw[z p.1 (.inl (i6 x))];have:=q.aA p x;unfold hx;rw[j5 (hR.1 this).1];exact this) (by
   intro j F;have E:(dL es s' i).heap.length+j∈wr es s' i:=by
    unfold wr yM;rw[h9,xk];exact j8 _ (Ok.2 ⟨o_,o_⟩)
   rw[z _ (.inr E)];have g:=h.Br (k:=i+1) o_;rw[(h.at_ i o a).2]at g;simp only[bg.app,hU,tg]at g;unfold hx;rw[nL,if_neg o_,if_pos o_])
  exact⟨_,aJ,aR,d,w',A,a2,a3,c⟩
 ·rw[C]at c;simp only[newAt,hZ,bu]at c;exact⟨_,ad,β,_,w,.one (PA a (f t s ai ad β w b r1)),b.put m (cF.refl b.heap) (by simp[aD,aH,bY,undef]) (by simp[aI]),fun _=>fa.refl _ _ _ _ _ _,c⟩
def isDone(a:Array Bool)(i:Nat):Prop:=a.getD i false=true
theorem OO{p:Nat->Bool}{i:Nat}:∀{l:List Nat},l.Nodup->i∈l->p i=true->l.countP p=l.countP (fun x=>p x&&x !=i)+1
 |[],_,h,_=>by simp at h
 |a::l,hn,h,c=>by
  rw[j2]at hn
  by_cases b:a=i
  ·subst b;have e:l.countP (fun x=>p x&&x !=a)=l.countP p:=by
    refine kp fun x hx=>?_;have:x≠a:=fun e=>hn.1 (e▸hx);simp[this]
   simp[c,e]
  ·have d:i∈l:=by
    rcases hV.1 h with h|h
    ·exact(b h.symm).elim
    ·exact h
   have f:=OO hn.2 d c;rw[kD,kD,f];have:(a !=i)=true:=by simpa using b
   simp only[this,Bool.and_true];omega
def left(b:Array Oper)(a:Array Bool):Nat:=(h6 b.size).countP fun i=>!a.getD i true
theorem lg.goes(h:lg P n ops es s'){fr:ea}{k:List Item}{cs:List ea}{ds:List ec}{ai:Nat->Prop}:∀(c b:Nat)(a:Array Bool)(s:St)(ad:Nat->Prop)(β:Bd)(t:Array dd)(w:dp),a.size=ops.size->left ops a<=c->AR ops (isDone a)->
 At ops es s' (isDone a) s->dj P n ai ad β s t w->
 ∃u D aJ aR R w',eo P (lone (bJ fr t ds (.inRegion ops (hw .any ops c b a [])::k)) cs w) (lone (bJ fr R ds (.inRegion ops []::k)) cs w')/\dj P n ai aJ aR u R w'/\(∀N,fa N ai ad w β s.heap ai aJ w' aR u.heap)/\At ops es s' D u/\∀j,j<ops.size->D j:=by
 have L:∀(a:Array Bool),a.size=ops.size->g8 .any ops a=[]->∀j,j<ops.size->isDone a j:=by
  intro a q f j
  induction j using lm with
  |_ j K=>
   intro d
   by_cases A:isDone a j
   ·exact A
   ·exfalso;have G:j<a.size:=by omega
    have:j∈g8 .any ops a:=by
     rw[ee];refine⟨?_,ops[j],b1 d,fun e B z=>?_⟩
     ·unfold isDone at A;simp only[ca,b1 G,l3]at A⊢;simpa using A
     ·have H:=h.lower j _ (b1 d) e B z;exact K e.on H o_
    rw[f]at this;simp at this
 intro c
 induction c with
 |zero=>
  intro b a s ad β t w q O hc y C;have f:g8 .any ops a=[]:=by
   rw[List.eq_nil_iff_forall_not_mem];intro j d;rw[ee]at d;obtain⟨g,o,m,_⟩:=d;have G:j<ops.size:=(b0.1 m).1;have:0<left ops a:=by
    unfold left;rw[List.countP_pos_iff];exact⟨j,by simpa using G,by rw[g];rfl⟩
   omega
  exact⟨s,isDone a,ad,β,t,w,by simp only[hw,List.reverse_nil];exact hK _ _,C,fun _=>fa.refl _ _ _ _ _ _,y,L a q f⟩
 |succ c K=>
  intro b a s ad β t w q O hc y C;have ab:hw .any ops (c+1) b a []=(match(g8 .any ops a)[b% (g8 .any ops a).length]? with
   |some i=>hw .any ops c (b/(g8 .any ops a).length) (a.setIfInBounds i true) [i]
   |none=>[].reverse):=rfl
  rw[ab];cases hi:(g8 .any ops a)[b% (g8 .any ops a).length]? with
  |none=>
   have f:g8 .any ops a=[]:=by
    cases f:g8 .any ops a with
    |nil=>rfl
    |cons x xs=>
     rw[f]at hi;have H:b% (x::xs).length<(x::xs).length:=Nat.mod_lt _ s_;rw[hS H]at hi;cases hi
   exact⟨s,isDone a,ad,β,t,w,hK _ _,C,fun _=>fa.refl _ _ _ _ _ _,y,L a q f⟩
  |some i=>
   simp only;rw[linearise_go_acc,List.reverse_singleton,List.singleton_append];have af:=i4 hi;obtain⟨g,o,m,Q⟩:=ee.1 af;have ac:i<ops.size:=(b0.1 m).1;have E:i<a.size:=o_
   have ag:¬isDone a i:=by
    unfold isDone;simp only[ca,b1 E,l3]at g⊢;simp[g]
   obtain⟨u,S,aj,t1,w1,U,a2,a3,a4⟩:=h.run (fr:=fr) (k:=k) (cs:=cs) (ds:=ds) (r:=hw .any ops c (b/(g8 .any ops a).length) (a.setIfInBounds i true) []) hc m ag Q y C;have M:(fun j=>isDone a j\/j=i)=isDone (a.setIfInBounds i true):=by
    funext j
    unfold isDone
    by_cases F:j=i
    ·subst F;simp[E]
    ·have:(a.setIfInBounds i true).getD j false=a.getD j false:=em false (lz F);rw[this];simp[F]
   rw[M]at a4;have aa:AR ops (isDone (a.setIfInBounds i true)):=by
    rw[<-M];intro j o' I d e B z;rcases d with d|rfl
    ·exact .inl (hc j o' I d e B z)
    ·rw[m]at I;cases I;exact .inl (Q e B z)
   have ae:left ops (a.setIfInBounds i true)<=c:=by
    have al:=OO (p:=fun j=>!a.getD j true) (i:=i) (l:=h6 ops.size) kw (by simpa using ac) (by show(!a.getD i true)=true;rw[g];rfl);have:left ops (a.setIfInBounds i true)=(h6 ops.size).countP (fun x=>!a.getD x true&&x !=i):=by
     unfold left;refine kp fun x hx=>?_
     by_cases J:x=i
     ·subst J;simp[E]
     ·have:(a.setIfInBounds i true).getD x true=a.getD x true:=em true (lz J);rw[this];simp[J]
    unfold left at O;omega
   obtain⟨v,D,T,ak,t2,ah,V,W,X,Y,Z⟩:=K (b/(g8 .any ops a).length) (a.setIfInBounds i true) u S aj t1 w1 (by simpa using q) ae aa a4 a2;exact⟨v,D,T,ak,t2,ah,U.trans V,W,fun N=>(a3 N).trans (X N),Y,Z⟩
theorem av5(h:fit n ops=true):(∀j o,ops[j]?=some o->∀e∈o.after,hd .any e=true->e.on<j)/\
 (∀i j u o,i<j->ops[i]?=some u->ops[j]?=some o->uT ops u o=true->reach ops ops.size i j=true):=by
 unfold fit at h;rw[h8]at h;constructor
 ·intro j o a e f c;have b:j<ops.size:=(b0.1 a).1;have:=h j (by simpa using b);rw[a]at this;simp only[ck,h8]at this;have:=this.1 e (by simpa using f);simpa[c]using this
 ·intro i j u o g k a d;have b:j<ops.size:=(b0.1 a).1;have:=h j (by simpa using b);rw[a]at this;simp only[ck,h8]at this;have:=this.2 i (by simpa using g);rw[k]at this;simpa[d]using this
theorem CD(C:o7 P aq)(Z:P.follows .mixedOrders=true):xn P aq fit:=by
 intro n N a fr k cs F f K s ai ad β t w T B h aa;obtain⟨es,s',I,J,M⟩:=Qo C B a.toList 0 [] s (fun _ h=>h) h;obtain⟨t1,t2,t3⟩:=I.at;obtain⟨_,_,O⟩:=O1 es 0 [] M;obtain⟨f1,f2⟩:=av5 (n:=n) T;have X:es.length=a.size:=by simpa using t1
 have hs:lg P n a es s':=by
  refine⟨X,fun k o c=>t3 k o (by simpa using c),B,f1,f2,fun i j U ag v=>?_⟩;have hi:i<es.length:=o_
  have A:j<es.length:=o_
  have G:es[i]?=some (es[i].1,es[i].2):=by simp[hS hi]
  have H:es[j]?=some (es[j].1,es[j].2):=by simp[hS A]
  have:=O i j es[i].1 es[i].2 es[j].1 es[j].2 U G H;simp only[le]at this;refine this ?_;have g:dL es s' i=es[i].1/\gT es i=es[i].2:=by simp[dL,gT,hS hi]
  have q:dL es s' j=es[j].1/\gT es j=es[j].2:=by simp[dL,gT,hS A]
  rw[g.1,g.2,q.1,q.2]at v;exact v
 have V:=hs.Br (k:=0) (lk _);rw[t2]at V;obtain⟨m,Y⟩:∃m,m=s'.heap.length-s.heap.length:=⟨_,rfl⟩
 have ab:=aa.tS m;have Q:∀N,fa N ai ad w β s.heap ai ad w β (s.heap++hW m .hole):=fun N=>⟨fun _ x=>x,fun _ x=>x,fun _ x=>.inl x,Ext.refl _ _ _,(uI _ _ _).n,fun x _=>rS _ _ x,fun b _⟨L,r⟩=>⟨L,by rw[nL,if_pos (hR.1 r).1];exact r⟩⟩
 have ac:ht (P.follows .mixedOrders) a f=hw .any a a.size f (b3 a.size false) []:=by
  simp[ht,Z,Region.linearise]
 have e:∀i,¬isDone (b3 a.size false) i:=by
  intro i hi;unfold isDone at hi
  by_cases z:i<a.size
  ·simp[z]at hi
  ·simp[z]at hi
 have R:At a es s' (isDone (b3 a.size false)) ⟨s.env,s.heap++hW m .hole⟩:=by
  refine⟨fun x=>⟨0,lk _,by rw[t2],fun i o _ _=>⟨fun h=>(e i h).elim,fun h=>by omega⟩⟩,by simp;omega,fun b=>⟨0,lk _,by rw[t2];unfold hx;rw[<-Y],fun i _ _=>⟨fun h=>(e i h).elim,fun h=>by omega⟩⟩⟩
 have W:left a (b3 a.size false)<=a.size:=by
  unfold left;have:=List.countP_le_length (p:=fun i=>!(b3 a.size false).getD i true) (l:=h6 a.size);simpa using this
 obtain⟨u,D,aJ,aR,af,w',E,a2,a3,a4,a5⟩:=hs.goes (fr:=fr) (k:=k) (cs:=cs) (ds:=F) a.size f (b3 a.size false) _ ad β t w s_ W (fun j o c d=>(e j d).elim) R ab;rw[ac];have S:∀x,aV s'.env x=aV u.env x:=by
  intro x;obtain⟨k,k1,k2,k3⟩:=a4.tmp x;rw[k2];have:=hs.Rv (x:=x) k1 (kW a.size) (fun i o c d=>by
   have hi:i<a.size:=(b0.1 c).1;have:=(k3 i o c d).1 (a5 i hi);exact⟨fun _=>hi,fun _=>this⟩)
  rw[hs.last]at this;exact this
 have y:s'.heap=u.heap:=by
  apply List.ext_getElem?;intro b;obtain⟨k,k1,k2,k3⟩:=a4.heap b;rw[k2];have:=hs.Rh (b:=b) k1 (kW a.size) (fun i hi ae=>by
   have:=(k3 i hi ae).1 (a5 i hi);exact⟨fun _=>hi,fun _=>this⟩)
  rw[hs.last]at this;rw[<-this];simp[hx]
 exact⟨s',aJ,aR,af,w',J,E,a2.congr S y,(Q N).trans (y▸a3 N)⟩
end
section
variable{P:c9}
structure au(P:c9)(f:dl)(fn:Func):Prop where
 func:P.funcs[f]?=some fn
 stat:(fn.body.isSome&&(fn.name != "runtime.NumGoroutine")&&codeOk fit fn.ntmps (fn.body.getD .skip))=true
theorem i_{P:c9}{n:dl}{fn:Func}(h:P.funcs[n]?=some fn)(k:(fn.body.isSome&&(fn.name != "runtime.NumGoroutine")&&codeOk fit fn.ntmps (fn.body.getD .skip))=true:=by kernel_rfl):au P n fn:=⟨h,k⟩
theorem au.enters{f:dl}{fn:Func}(h:au P f fn):Enters P f:=by
 intro args w;have hs:=h.stat;simp only[ck,bne_iff_ne]at hs;cases a:fn.body with
 |none=>rw[a]at hs;simp at hs
 |some c=>simp[callFunc,h.func,hs.1.2,a]
def Ends(P:c9)(a:List ResultVar)(v:PV)(e:bL)(s:St):Prop:=
 (match e with
  | .exit _=>False
  |_=>True)/\∃vs,iE P s a=some vs/\gC s.heap 9 (oneOf vs)=some v
theorem Ex{f:dl}{fn:Func}(aq:dl->Bool)(h:au P f fn)(b:P.follows .mixedOrders=true){args:List PV}{v:PV}(hn:args.length<=fn.ntmps)
 (c:cQ P aq (fn.ntmps,0) (fn.body.getD .skip) (Ends P fn.results.toList v) ⟨jX 0 (args.map .p),[]⟩):al P f args v:=by
 have hs:=h.stat;simp only[ck,bne_iff_ne]at hs;have a:fn.body=some (fn.body.getD .skip):=by
  have:=hs.1.1;cases d:fn.body<;>simp_all
 exact .inl (QI (th aq) (CD (th aq) b) h.enters h.func a hs.2 hn c)
class aRH(P:c9)(f:dl)(args:List PV)(pre:outParam Prop)(v:outParam PV):Prop where
 Ex:pre->al P f args v
section calls
variable{f:dl}{H:ak}{pre:Prop}{v:PV}
end calls
def vE(e:Env):Env->Prop
 |[]=>True
 |(x,v)::r=>aV e x=v/\vE e r
def nh:ak->ak->Prop
 |_,[]=>True
 |[],.hole::t=>nh [] t
 |_::h,.hole::t=>nh h t
 |o::h,o'::t=>o=o'/\nh h t
 |[],_::_=>False
theorem vE.get{e:Env}:∀{t:Env},vE e t->∀x,aV t x=aV e x\/aV t x=.p .undef
 |[],_,x=>.inr rfl
 |(y,v)::t,h,x=>by
  simp only[vE]at h;simp only[aV]
  split
  ·rename_i hx;subst hx;exact .inl h.1.symm
  ·exact vE.get h.2 x
theorem nh.get:∀{h t:ak},nh h t->∀(b:Nat)(o:Obj),t[b]?=some o->o=.hole\/h[b]?=some o
 |_,[],_,b,o,a=>by simp at a
 |[],o'::t,hk,b,o,a=>by
  cases o'<;>simp only[nh]at hk;cases b with
  |zero=>simp at a;exact .inl a.symm
  |succ b=>exact(nh.get hk b o (by simpa using a)).imp id (fun h=>by simp at h)
 |c::h,o'::t,hk,b,o,a=>by
  cases b with
  |zero=>
   simp at a;cases o'<;>simp only[nh]at hk
   case hole=>exact .inl a.symm
   all_goals exact .inr (by rw[<-a,<-hk.1];simp)
  |succ b=>
   have:nh h t:=by cases o'<;>simp only[nh]at hk<;>first|exact hk|exact hk.2
   exact(nh.get this b o (by simpa using a)).imp id (fun h=>by simpa using h)
def ji(H:ak):Env->Prop
 |[]=>True
 |(_,v)::r=>aI (aQ H) v/\ji H r
def ek(H:ak):ak->Prop
 |[]=>True
 |o::r=>o.refs (aQ H)/\ek H r
theorem ji.get{H:ak}:∀{e:Env},ji H e->∀x,aI (aQ H) (aV e x)
 |[],_,x=>by simp[aV,aI]
 |(y,v)::e,h,x=>by
  simp only[ji]at h;simp only[aV]
  split
  ·exact h.1
  ·exact ji.get h.2 x
theorem ek.get{H:ak}:∀{h:ak},ek H h->∀(b:Nat)(o:Obj),h[b]?=some o->o.refs (aQ H)
 |[],_,b,o,a=>by simp at a
 |c::h,hr,b,o,a=>by
  simp only[ek]at hr;cases b with
  |zero=>simp at a;subst a;exact hr.1
  |succ b=>exact ek.get hr.2 b o (by simpa using a)
theorem tO.of{s t:St}(a:vE s.env t.env)(c:nh s.heap t.heap)(e:ji t.heap t.env)(f:ek t.heap t.heap):tO s t:=
 ⟨fun x=>(a.get x).imp id .inl,fun b o d=>(c.get b o d).imp id .inl,e.get,f.get⟩
theorem dh.of{N:Nat}{s t:St}(hn:t.heap.take N=s.heap.take N)(c:vE s.env t.env)(d:nh s.heap t.heap)(e:ji t.heap t.env)(f:ek t.heap t.heap):dh N s t:=by
 refine .inr ⟨tO.of c d e f,fun b a=>?_⟩;have:=congrArg (fun l:ak=>l[b]?) hn;simpa[List.getElem?_take,a]using this
theorem Ux{f:dl}{fn:Func}(aq:dl->Bool)(h:au P f fn)(b:P.follows .mixedOrders=true){args:List AV}{H H':ak}{v:AV}(hn:args.length<=fn.ntmps)
 (c:cQ P aq (fn.ntmps,H.length) (fn.body.getD .skip) (ye P fn.results.toList H.length H' v) ⟨jX 0 args,H⟩):c8 P f H args H' v:=by
 have hs:=h.stat;simp only[ck,bne_iff_ne]at hs;have a:fn.body=some (fn.body.getD .skip):=by
  have:=hs.1.1;cases d:fn.body<;>simp_all
 exact av4 (th aq) (CD (th aq) b) h.enters h.func a hs.2 hn c
theorem Uy(aq:dl->Bool)(f:P.follows .mixedOrders=true){b:Nat}{L:eK}{H H':ak}{args:List AV}{v:AV}(d:H[b]?=some (.loop L))(e:args.length=L.params.length)
 (a:(L.params.all (fun x=>decide (x<L.n))&&codeOk fit L.n L.assign&&codeOk fit L.n L.body)=true)(g:Dk P aq L b args H (fun c h=>h=v/\dh H.length ⟨[],c⟩ ⟨[],H'⟩)):gJ P b H args H' v:=by
 simp only[ck,h8,decide_eq_true_eq]at a;exact av2 (th aq) (CD (th aq) f) d e a.1.1 a.1.2 a.2 g
theorem again{N:Nat}{α:Type}{mk:α->St}{ok:α->Prop}{m:α->Nat}{n:Nat}{s':St}(a':α)(c:m a'<n)(d:ok a')(e:dh N s' (mk a')):∃a b,a<n/\dh N s' b/\∃a',ok a'/\b=mk a'/\a=m a':=
 ⟨m a',mk a',c,e,a',d,rfl,rfl⟩
end
section
variable{P:c9}{aq:dl->Bool}
def bd{α:Type}(F:(α->Prop)->Prop):Prop:=∀K,F K->∃a,K a/\∀b:α->Prop,b a->F b
theorem bd.one{α β:Type}(f:β->α)(b:β):bd (fun K:α->Prop=>K (f b)):=fun _ h=>⟨f b,h,fun _ h=>h⟩
theorem bd.false{α:Type}:bd (fun _:α->Prop=>False):=fun _ h=>h.elim
theorem bd.and{α:Type}{p:Prop}{F:(α->Prop)->Prop}(h:bd F):bd (fun K=>p/\F K):=fun K hk=>by
 obtain⟨a,c,d⟩:=h K hk.2;exact⟨a,c,fun b h=>⟨hk.1,d b h⟩⟩
theorem bd.ex{α:Type}{β:Sort _}{F:β->(α->Prop)->Prop}(h:∀b,bd (F b)):bd (fun K=>∃b,F b K):=fun K⟨b,f⟩=>by
 obtain⟨a,d,e⟩:=h b K f;exact⟨a,d,fun c h=>⟨b,e c h⟩⟩
theorem bd.or{α:Type}{F G:(α->Prop)->Prop}(h:bd F)(e:bd G):bd (fun K=>F K\/G K):=fun K hk=>by
 rcases hk with hk|hk
 ·obtain⟨a,c,d⟩:=h K hk;exact⟨a,c,fun b h=>.inl (d b h)⟩
 ·obtain⟨a,c,d⟩:=e K hk;exact⟨a,c,fun b h=>.inr (d b h)⟩
theorem bd.ite{α:Type}{p:Prop}[Decidable p]{F G:(α->Prop)->Prop}(h:bd F)(f:bd G):bd (fun K=>if p then F K else G K):=fun K hk=>by
 split at hk
 ·rename_i e;obtain⟨a,c,d⟩:=h K hk;exact⟨a,c,fun b h=>by simpa[e]using d b h⟩
 ·rename_i e;obtain⟨a,c,d⟩:=f K hk;exact⟨a,c,fun b h=>by simpa[e]using d b h⟩
theorem bd.bind{α β:Type}{F:(α->Prop)->Prop}{G:α->(β->Prop)->Prop}(h:bd F)(d:∀a,bd (G a)):bd (fun K=>F (fun a=>G a K)):=fun K hk=>by
 obtain⟨a,e,f⟩:=h _ hk;obtain⟨b,g,i⟩:=d a K e;exact⟨b,g,fun c h=>f _ (i c h)⟩
theorem bd.map{α β:Type}{F:(α->Prop)->Prop}(h:bd F)(f:α->β):bd (fun K=>F (fun a=>K (f a))):=h.bind fun a=>bd.one f a
theorem arY(T:da)(H:ak)(a:AV):bd (sv P T H a):=by
 unfold sv
 repeat' first
  |exact bd.false
  |exact bd.one id _
  |refine bd.and ?_
  |refine bd.ex fun _=>?_
  |split
theorem aqs(T:da)(H:ak)(a x:AV):bd (rU P T H a x):=by
 unfold rU
 repeat' first
  |exact bd.false
  |exact bd.one id _
  |refine bd.and ?_
  |refine bd.ex fun _=>?_
  |split
theorem Zj(T:da)(a:AV)(f:Nat):bd (rK P T a f):=by
 unfold rK
 repeat' first
  |exact bd.false
  |exact bd.one id _
  |refine bd.and ?_
  |refine bd.ex fun _=>?_
  |split
theorem Zi(T:da)(H:ak)(a i:AV):bd (rJ P T H a i):=by
 unfold rJ
 repeat' first
  |exact bd.false
  |exact bd.one id _
  |refine bd.and ?_
  |refine bd.ex fun _=>?_
  |split
theorem ZX(T X:da)(H:ak)(s x:AV):bd (rM P T X H s x):=by
 unfold rM
 repeat' first
  |exact bd.false
  |exact bd.one id _
  |refine bd.and ?_
  |refine bd.ex fun _=>?_
  |refine bd.ite ?_ ?_
  |split
theorem aoQ{α:Type}{F:Nat->(α->Prop)->Prop}(x:Option AV)(d:Nat)(h:∀n,bd (F n)):bd (fun K=>jW x d (fun n=>F n K)):=by
 unfold jW
 split
 ·exact h _
 ·exact bd.and (h _)
 ·exact bd.false
theorem aqt(T:da)(H:ak)(x:AV)(lo hi:Option AV):bd (rV P T H x lo hi):=by
 unfold rV
 repeat' first
  |exact bd.false
  |exact bd.one id _
  |refine bd.and ?_
  |refine aoQ _ _ fun _=>?_
  |refine bd.ite ?_ ?_
  |split
theorem au4(op:dz)(T:da)(c:Bool)(H:ak)(x y:AV)(f:PV->bg):bd (fun K:bg->Prop=>ng P op T c H x y (fun v=>K (f v))):=by
 unfold ng
 repeat' first
  |exact bd.false
  |exact bd.one f _
  |refine bd.and ?_
  |(unfold tR;split)
  |(unfold tQ;split)
  |split
theorem Hl(o:Oper)(ρ:dg->AV)(H:ak):bd (gO P aq o ρ H):=by
 unfold gO
 repeat' first
  |exact bd.false
  |exact bd.one id _
  |exact arY _ _ _
  |exact aqs _ _ _ _
  |exact Zj _ _ _
  |exact Zi _ _ _ _
  |exact aqt _ _ _ _ _
  |exact ZX _ _ _ _ _
  |exact au4 _ _ _ _ _ _ _
  |refine bd.and ?_
  |refine bd.ex fun _=>?_
  |refine bd.ite ?_ ?_
  |refine bd.or ?_ ?_
  |split
  |dsimp only
theorem PF(d:Bool)(f:dl)(args:List AV)(H:ak){α:Type}(g:AV->ak->α):bd (fun K:α->Prop=>mu P d f args H (fun v H'=>K (g v H'))):=by
 unfold mu;refine bd.or (bd.ex fun vs=>bd.ex fun v=>bd.and (bd.and ?_)) (bd.and (bd.or (bd.ex fun vs=>bd.ex fun H1=>bd.ex fun v=>bd.and (bd.and ?_)) (bd.or (bd.ex fun H'=>bd.ex fun v=>bd.and ?_) (bd.or (bd.ex fun e=>bd.and (bd.and ?_)) (bd.ex fun aA=>bd.ex fun v=>bd.and (bd.and ?_))))))
 ·exact bd.one (fun v=>g (.p v) H) v
 ·exact bd.one (fun v=>g (.p v) H1) v
 ·exact bd.one (fun v=>g v H') v
 ·exact bd.one (fun _:Unit=>g e.v (bu H e.aW++e.bm)) ()
 ·exact bd.one (fun v=>g (.p v) H) v
theorem O3(f:dl)(args:List AV)(H:ak):bd (mw P f args H):=by
 unfold mw;refine bd.or (bd.ex fun vs=>bd.ex fun v=>bd.and (bd.and (bd.one id _))) (bd.or (bd.ex fun vs=>bd.ex fun bs=>bd.ex fun aA=>bd.ex fun aW=>bd.ex fun v=>bd.and (bd.and (bd.and (bd.one id _)))) (bd.or (bd.ex fun e=>bd.and (bd.and (bd.one id _))) (bd.ex fun aA=>bd.ex fun v=>bd.and (bd.and (bd.one id _)))))
theorem PD(d:Bool)(o:Oper)(s:St):bd (fun K=>mf P aq d o K s):=by
 unfold mf
 split
 ·split
  ·exact PF _ _ _ _ (fun v H'=>(⟨put o.dst v s.env,H'⟩:St))
  ·exact PF _ _ _ _ (fun v H'=>(⟨put o.dst v s.env,H'⟩:St))
  ·exact bd.ex fun H'=>bd.ex fun v=>bd.and (bd.one (fun _:Unit=>(⟨put o.dst v s.env,H'⟩:St)) ())
  ·exact bd.false
 ·exact(Hl o _ _).map (fun e=>e.app o.dst s)
theorem PE(o:Oper)(s:St):bd (lS P aq o s):=by
 unfold lS
 split
 ·split
  ·exact O3 _ _ _
  ·exact O3 _ _ _
  ·exact bd.ex fun e=>bd.and (bd.and (bd.one id _))
  ·exact bd.false
 ·exact Hl o _ _
theorem C4(d:Bool)(a:Array Oper):∀(l:List Oper)(s:St),bd (fun K=>je P aq d a l K s)
 |[],s=>by simp only[je];exact bd.one id s
 |o::l,s=>by
  have go:bd (fun K=>mf P aq d o (je P aq d a l K) s):=(PD d o s).bind fun t=>C4 d a l t;simp only[je]
  split
  ·exact go
  ·split
   ·split
    ·exact go
    ·exact C4 d a l _
   ·exact C4 d a l _
   ·exact bd.false
theorem CN(b:Array Oper):∀(l:List Oper)(i:Nat)(a:List Touch)(s:St),bd (fun K=>iG P aq b l i a K s)
 |[],i,a,s=>by simp only[iG];exact bd.and (bd.one id s)
 |o::l,i,a,s=>by
  have go:bd (fun K=>lS P aq o s fun e=>iG P aq b l (i+1) (iH i s.heap.length e a) K (e.app o.dst s)):=(PE o s).bind fun e=>CN b l (i+1) _ _;simp only[iG]
  split
  ·exact go
  ·split
   ·split
    ·exact go
    ·exact CN b l (i+1) a _
   ·exact CN b l (i+1) a _
   ·exact bd.false
def Ee(F:(bL->St->Prop)->Prop):Prop:=∀Q,F Q->∃e s,Q e s/\∀a:bL->St->Prop,a e s->F a
inductive AP(P:c9)(aq:dl->Bool)(q:Cx)(b:Code)(e:bL)(s:St):Nat->St->Prop
 |stop {k:Nat} {u:St}:(∀Q:bL->St->Prop,Q e s->cQ P aq q b Q u)->e≠.normal->AP P aq q b e s k u
 |step {k m:Nat} {u s1 u':St}:(∀Q:bL->St->Prop,Q .normal s1->cQ P aq q b Q u)->m<k->dh q.2 s1 u'->AP P aq q b e s m u'->AP P aq q b e s k u
theorem arZ(j:Option Code)(s:St):Ee (fun Q=>lO Q j s):=fun Q h=>by
 unfold lO at h
 split at h
 ·exact⟨.normal,s,h,fun _ h=>h⟩
 ·rename_i id;exact⟨.exit id,s,h,fun _ h=>h⟩
 ·exact⟨.ret,s,h,fun _ h=>h⟩
 ·exact h.elim
theorem PC(b:Nat)(env:Env)(H:ak):Ee (fun Q=>jw b env Q H):=fun Q h=>by
 unfold jw at h
 split at h
 ·rename_i L f;obtain⟨e,s,c,d⟩:=arZ _ _ Q h.2;exact⟨e,s,c,fun a hq=>by unfold jw;simp only[f];exact⟨h.1,d a hq⟩⟩
 ·exact h.elim
theorem ar0(f:AV)(b:Nat)(H:ak)(env:Env):Ee (fun Q=>lJ P f b H (jw b env Q)):=fun Q h=>by
 unfold lJ at h
 split at h
 ·obtain⟨H',v,c,d⟩:=h;obtain⟨e,s,k1,k2⟩:=PC b env H' Q d;exact⟨e,s,k1,fun a hq=>by simp only[lJ];exact⟨H',v,c,k2 a hq⟩⟩
 ·obtain⟨H',v,c,d⟩:=h;obtain⟨e,s,k1,k2⟩:=PC b env H' Q d;exact⟨e,s,k1,fun a hq=>by simp only[lJ];exact⟨H',v,c,k2 a hq⟩⟩
 ·exact h.elim
theorem rI{q:Cx}:∀(c:Code)(s:St),Ee (fun Q=>cQ P aq q c Q s)
 | .skip,s| .label _,s=>fun Q h=>⟨.normal,s,h,fun _ h=>h⟩
 | .exit id,s=>fun Q h=>⟨.exit id,s,h,fun _ h=>h⟩
 | .ret,s=>fun Q h=>⟨.ret,s,h,fun _ h=>h⟩
 | .region id ops draw,s=>fun Q h=>by
  simp only[cQ]at h⊢
  split at h
  ·rename_i l;obtain⟨t,d,g⟩:=CN ops _ _ _ _ _ h;exact⟨.normal,t,d,fun Q' h=>by simp only[l,if_true];exact g _ h⟩
  ·rename_i l;obtain⟨t,d,g⟩:=C4 _ ops _ _ _ h;exact⟨.normal,t,d,fun Q' h=>by rw[if_neg l];exact g _ h⟩
 | .seq a b,s=>fun Q h=>by
  simp only[cQ]at h⊢;obtain⟨e,t,d,g⟩:=rI a s _ h;cases e with
  |normal=>
   obtain⟨e',r,k,y⟩:=rI b t _ d;exact⟨e',r,k,fun Q' h=>g _ (y Q' h)⟩
  |exit id=>exact⟨.exit id,t,d,fun Q' h=>g _ h⟩
  |ret=>exact⟨.ret,t,d,fun Q' h=>g _ h⟩
 | .cond c a b,s=>fun Q h=>by
  simp only[cQ]at h⊢
  split at h
  ·split at h
   ·rename_i p;obtain⟨e,t,d,g⟩:=rI a s _ h;exact⟨e,t,d,fun Q' h=>by rw[if_pos p];exact g _ h⟩
   ·rename_i p;obtain⟨e,t,d,g⟩:=rI b s _ h;exact⟨e,t,d,fun Q' h=>by rw[if_neg p];exact g _ h⟩
  ·exact h.elim
 | .block id b,s=>fun Q h=>by
  simp only[cQ]at h⊢;obtain⟨e,t,d,g⟩:=rI b s _ h;cases e with
  |normal=>exact⟨.normal,t,d,fun Q' h=>g _ h⟩
  |exit i=>
   by_cases hi:i=id
   ·simp only[hi,if_true]at d;exact⟨.normal,t,d,fun Q' h=>g _ (by simp only[hi,if_true];exact h)⟩
   ·simp only[hi,if_false]at d;exact⟨.exit i,t,d,fun Q' h=>g _ (by simp only[hi,if_false];exact h)⟩
  |ret=>exact⟨.ret,t,d,fun Q' h=>g _ h⟩
 | .scope b,s=>fun Q h=>by simp only[cQ]at h⊢;exact rI b s Q h
 | .loop b,s=>fun Q h=>by
  simp only[cQ]at h⊢;obtain⟨I,⟨w,t0,hf,hI⟩,F⟩:=h;have key:∀(n:Nat)(t:St),I n t->∃e u,Q e u/\e≠.normal/\AP P aq q b e u n t:=by
   intro n
   induction n using lm with
   |_ n G=>
    intro t hI;obtain⟨e,s1,d,g⟩:=rI b t _ (F n t hI);cases e with
    |normal=>
     obtain⟨m,r,j,o,z⟩:=d;obtain⟨e,u,k1,k2,k3⟩:=G m j r z;exact⟨e,u,k1,k2,.step g j o k3⟩
    |exit id=>exact⟨.exit id,s1,d,s_,.stop g s_⟩
    |ret=>exact⟨.ret,s1,d,s_,.stop g s_⟩
  obtain⟨e,u,d,g,k⟩:=key w t0 hI;refine⟨e,u,d,fun Q' v=>⟨AP P aq q b e u,⟨w,t0,hf,k⟩,?_⟩⟩;intro n t C;cases C with
  |stop hs E=>
   refine hs _ ?_;cases e with
   |normal=>exact(E rfl).elim
   |exit id=>exact v
   |ret=>exact v
  |step hs j o D=>exact hs _ ⟨_,_,j,o,D⟩
 | .rangeFunc f H a b,s=>fun Q h=>by
  simp only[cQ]at h;obtain⟨A,x,B,h⟩:=h;obtain⟨e,t,d,g⟩:=ar0 _ _ _ _ Q h;exact⟨e,t,d,fun Q' hq=>by simp only[cQ];exact⟨A,x,B,g Q' hq⟩⟩
 | .goto _,_| .refuse _,_=>fun Q h=>by simp[cQ]at h
def Spec(P:c9)(f:dl)(args:List PV)(Q:PV->Prop):Prop:=∃v,al P f args v/\Q v
theorem Spec.mono{f:dl}{args:List PV}{Q a:PV->Prop}(h:Spec P f args Q)(hq:∀v,Q v->a v):Spec P f args a:=by
 obtain⟨v,b,c⟩:=h;exact⟨v,b,hq v c⟩
end
def tL(id:Nat)(Q:bL->St->Prop)(e:bL)(s:St):Prop:=
 match e with
 | .exit i=>if i=id then Q .normal s else Q (.exit i) s
 |e=>Q e s
theorem ZA{id:Nat}{Q:bL->St->Prop}{s:St}:tL id Q .normal s=Q .normal s:=(rfl)
theorem aol{id i:Nat}{Q:bL->St->Prop}{s:St}:tL id Q (.exit i) s=if i=id then Q .normal s else Q (.exit i) s:=(rfl)
theorem arc{id:Nat}{Q:bL->St->Prop}{s:St}:tL id Q .ret s=Q .ret s:=(rfl)
def xS(N n:Nat)(I:Nat->St->Prop)(Q:bL->St->Prop)(e:bL)(s:St):Prop:=
 match e with
 | .normal=>∃a b,a<n/\dh N s b/\I a b
 |e=>Q e s
theorem Zo{N n:Nat}{I:Nat->St->Prop}{Q:bL->St->Prop}{s:St}:xS N n I Q .normal s=∃a b,a<n/\dh N s b/\I a b:=(rfl)
theorem Z0{N n id:Nat}{I:Nat->St->Prop}{Q:bL->St->Prop}{s:St}:xS N n I Q (.exit id) s=Q (.exit id) s:=(rfl)
theorem aqw{N n:Nat}{I:Nat->St->Prop}{Q:bL->St->Prop}{s:St}:xS N n I Q .ret s=Q .ret s:=(rfl)
section aLl
variable{P:c9}
@[congr] theorem aDt{b:Array Oper}{l a:List Touch}(h:l=a):jY b l=jY b a:=by rw[h]
end aLl
section
variable{P:c9}{aq:dl->Bool}
abbrev fZ:=Option (Prop×bg)
def cN(r:fZ)(K:bg->Prop):Prop:=
 match r with
 |some (p,e)=>p/\K e
 |none=>False
theorem ar9{p:Prop}{e:bg}{K:bg->Prop}:cN (some (p,e)) K=(p/\K e):=(rfl)
theorem asa{K:bg->Prop}:cN none K=False:=(rfl)
@[congr] theorem aUg{r a:fZ}{K:bg->Prop}(h:r=a):cN r K=cN a K:=by rw[h]
def Can(F:(bg->Prop)->Prop)(r:fZ):Prop:=∀K,cN r K->F K
theorem Can.none{F:(bg->Prop)->Prop}:Can F none:=fun _ h=>h.elim
def AL(P:c9)(T:da)(H:ak)(a:AV):fZ:=
 match a with
 | .ptr b path=>match H[b]? with
  |some (.box fz t)=>match fY t path with
   |some s=>some (kindOf P T=aa s,{v:=s,aA:=[(b,.box fz t)]})
   |none=>none
  |_=>none
 | .cM b aF an i path=>match H[b]? with
  |some (.arr k d c es)=>match es[i]? with
   |some x=>match fY x path with
    |some s=>some ((aF=d/\an=c)/\kindOf P T=aa s,{v:=s,aA:=[(b,.arr k d c es)]})
    |none=>none
   |none=>none
  |_=>none
 | .p (.cW t)=>some (kindOf P T=aP t,{v:=.p t})
 |_=>none
theorem awo{T:da}{H:ak}{a:AV}:Can (sv P T H a) (AL P T H a):=by
 intro K h;unfold AL at h;unfold sv
 split at h
 ·split at h
  ·rename_i b
   split at h
   ·rename_i hs;simp only[cN]at h;simp only[b,hs];exact h
   ·exact h.elim
  ·exact h.elim
 ·split at h
  ·rename_i b
   split at h
   ·rename_i x hx;obtain⟨hi,hx⟩:=hR.1 hx
    split at h
    ·rename_i hs;simp only[cN]at h;simp only[b];exact⟨h.1.1.1,h.1.1.2,hi,by rw[hx,hs];exact⟨h.1.2,h.2⟩⟩
    ·exact h.elim
   ·exact h.elim
  ·exact h.elim
 ·exact h
 ·exact h.elim
def Ah(P:c9)(T:da)(H:ak)(a x:AV):fZ:=
 match a with
 | .ptr b path=>match H[b]? with
  |some (.box false t)=>match fY t path,iu t path x with
   |some s,some d=>some ((kindOf P T=aa x/\aa x≠.bad)/\aa s=aa x,{v:=.p (.aE []),aA:=[(b,.box false t)],aW:=[(b,.box false d)]})
   |_,_=>none
  |_=>none
 | .cM b aF an i path=>match H[b]? with
  |some (.arr k e c es)=>match es[i]? with
   |some y=>match fY y path,iu y path x with
    |some s,some d=>some ((kindOf P T=aa x/\aa x≠.bad)/\(aF=e/\an=c/\k≠.frozen)/\aa s=aa x,{v:=.p (.aE []),aA:=[(b,.arr k e c es)],aW:=[(b,.arr k e c (es.set i d))]})
    |_,_=>none
   |none=>none
  |_=>none
 |_=>none
theorem auc{T:da}{H:ak}{a x:AV}:Can (rU P T H a x) (Ah P T H a x):=by
 intro K h;unfold Ah at h;unfold rU
 split at h
 ·split at h
  ·rename_i b
   split at h
   ·rename_i hs c;simp only[cN]at h;simp only[b,hs,c];exact⟨h.1.1.1,h.1.1.2,h.1.2,h.2⟩
   ·exact h.elim
  ·exact h.elim
 ·split at h
  ·rename_i b
   split at h
   ·rename_i y d;obtain⟨hi,d⟩:=hR.1 d
    split at h
    ·rename_i hs c;simp only[cN]at h;simp only[b];exact⟨h.1.1.1,h.1.1.2,h.1.2.1.1,h.1.2.1.2.1,h.1.2.1.2.2,hi,by rw[d,hs,c];exact⟨h.1.2.2,h.2⟩⟩
    ·exact h.elim
   ·exact h.elim
  ·exact h.elim
 ·exact h.elim
def zC(P:c9)(T:da)(a:AV)(f:Nat):fZ:=
 match fp P T with
 |some (u,n)=>match a with
  | .ptr b path=>some (f<n,{v:=.ptr b (path++[(u,f)])})
  | .cM b aF an i path=>some (f<n,{v:=.cM b aF an i (path++[(u,f)])})
  | .p (.cW t)=>match(cz t)[f]? with
   |some g=>some (f<n/\aP t=.agg u,{v:=.p (.cW g)})
   |none=>none
  |_=>none
 |_=>none
theorem Zx{T:da}{a:AV}{f:Nat}:Can (rK P T a f) (zC P T a f):=by
 intro K h;unfold zC at h;unfold rK
 split at h
 ·rename_i hs;simp only[hs]
  split at h
  ·exact h
  ·exact h
  ·split at h
   ·rename_i b;simp only[cN]at h;simp only[b];exact⟨h.1.1,h.1.2,h.2⟩
   ·exact h.elim
  ·exact h.elim
 ·exact h.elim
def zB(P:c9)(T:da)(H:ak)(x i:AV):fZ:=
 match i with
 | .p (.int _ i)=>match x with
  | .p (.dD _ es)=>match es[i.toNat]? with
   |some y=>some (0<=i/\dH P T=some (bZ P (aP y)),{v:=.p (.cW y)})
   |none=>none
  | .p (.seq es)=>match es[i.toNat]? with
   |some y=>some (0<=i/\dH P T=some (bZ P (aP y)),{v:=.p (.cW y)})
   |none=>none
  | .sl b aF an off len=>match H[b]? with
   |some (.arr k c a es)=>some (0<=i/\dH P T=some an/\i.toNat<len/\aF=c/\an=a/\¬(k.gr=true/\es=[]),{v:=.cM b aF an (off+i.toNat) [],aA:=[(b,.arr k c a es)]})
   |_=>none
  | .ptr b path=>match iO P T with
   |some (u,n)=>some (0<=i/\i.toNat<n,{v:=.ptr b (path++[(u,i.toNat)])})
   |_=>none
  | .cM b aF an j path=>match iO P T with
   |some (u,n)=>some (0<=i/\i.toNat<n,{v:=.cM b aF an j (path++[(u,i.toNat)])})
   |_=>none
  | .p (.cW t)=>match iO P T with
   |some (u,n)=>match(cz t)[i.toNat]? with
    |some g=>some (0<=i/\aP t=.agg u/\i.toNat<n,{v:=.p (.cW g)})
    |none=>none
   |_=>none
  |_=>none
 |_=>none
theorem Zw{T:da}{H:ak}{x i:AV}:Can (rJ P T H x i) (zB P T H x i):=by
 intro K h;unfold zB at h;unfold rJ
 split at h
 case h_2=>exact h.elim
 split at h
 ·split at h
  ·rename_i y a;obtain⟨hi,a⟩:=hR.1 a;simp only[cN]at h;exact⟨h.1.1,hi,by rw[a];exact h.1.2,by rw[a];exact h.2⟩
  ·exact h.elim
 ·split at h
  ·rename_i y a;obtain⟨hi,a⟩:=hR.1 a;simp only[cN]at h;exact⟨h.1.1,hi,by rw[a];exact h.1.2,by rw[a];exact h.2⟩
  ·exact h.elim
 ·split at h
  ·rename_i l;simp only[cN]at h;obtain⟨⟨b,c,d,e,f,g⟩,j⟩:=h;refine⟨b,c,d,?_⟩;rw[l];exact⟨e,f,g,j⟩
  ·exact h.elim
 ·split at h
  ·rename_i hs;simp only[cN]at h;simp only[hs];exact⟨h.1.1,h.1.2,h.2⟩
  ·exact h.elim
 ·split at h
  ·rename_i hs;simp only[cN]at h;simp only[hs];exact⟨h.1.1,h.1.2,h.2⟩
  ·exact h.elim
 ·split at h
  ·rename_i hs
   split at h
   ·rename_i k;simp only[cN]at h;simp only[hs,k];exact⟨h.1.1,h.1.2.1,h.1.2.2,h.2⟩
   ·exact h.elim
  ·exact h.elim
 ·exact h.elim
end
section
variable{P:c9}{aq:dl->Bool}
def zU(P:c9)(T X:da)(H:ak)(s x:AV):fZ:=
 match dH P T,kT H x with
 |some sz,some xs=>match s with
  | .p .aM=>some ((jI P X=true/\(cO P (fR P T)).isSome=true/\gP P sz xs)/\xs.length<=dA,
   if xs.isEmpty then{v:=s,aA:=eX H x}else{v:=.sl H.length 0 sz 0 xs.length,aA:=eX H x,bm:=[.arr (gk P T) 0 sz xs]})
  | .sl b aF an off len=>match H[b]? with
   |some (.arr k c a es)=>some ((jI P X=true/\(cO P (fR P T)).isSome=true/\gP P sz xs)/\(aF=c/\an=a/\an=sz/\off+len<=es.length)/\es.length+xs.length<=dA/\k≠ .frozen/\(k≠ .exact->off=0)/\(k= .bytes->fR P T=Gl.u8),
    if xs.isEmpty then{v:=s,aA:=(b,.arr k c a es)::eX H x}
    else match k with
     | .exact=>if off+len+xs.length<=es.length then
      {v:=.sl b aF an off (len+xs.length),aA:=(b,.arr k c a es)::eX H x,aW:=[(b,.arr .exact aF an (es.take (off+len)++xs++es.drop (off+len+xs.length)))]}
      else{v:=.sl H.length 0 sz 0 (len+xs.length),aA:=(b,.arr k c a es)::eX H x,bm:=[.arr (gk P T) 0 sz ((es.drop off).take len++xs)]}
     |_=>{v:=.sl b (aF+1) an 0 (len+xs.length),aA:=(b,.arr k c a es)::eX H x,aW:=[(b,.arr k (aF+1) an (es.take len++xs))]})
   |_=>none
  |_=>none
 |_,_=>none
theorem aq4{T X:da}{H:ak}{s x:AV}:Can (rM P T X H s x) (zU P T X H s x):=by
 intro K h;unfold zU at h;unfold rM
 split at h
 case h_2=>exact h.elim
 rename_i sz p i j;simp only[i,j]
 split at h
 ·simp only[cN]at h;obtain⟨⟨⟨b,a2,a3⟩,a4⟩,hk⟩:=h;refine⟨b,a2,a3,?_⟩;dsimp only
  split
  ·rename_i a;rw[if_pos a]at hk;exact hk
  ·rename_i a;rw[if_neg a]at hk;exact⟨a4,hk⟩
 ·split at h
  case h_2=>exact h.elim
  rename_i k o n m l;simp only[cN]at h;obtain⟨⟨⟨b,a2,a3⟩,⟨rfl,rfl,e,f⟩,g,a9,c,d⟩,hk⟩:=h;refine⟨b,a2,a3,?_⟩;simp only[l];refine⟨trivial,trivial,e,f,?_⟩
  split
  ·rename_i a;rw[if_pos a]at hk;exact hk
  ·rename_i a;rw[if_neg a]at hk;refine⟨g,?_⟩;cases k with
   |frozen=>exact a9 rfl
   |exact=>
    simp only at hk⊢
    split
    ·rename_i hc;rw[if_pos hc]at hk;exact hk
    ·rename_i hc;rw[if_neg hc]at hk;exact hk
   |grow=>exact⟨c s_,fun h=>(by cases h),hk⟩
   |bytes=>exact⟨c s_,d,hk⟩
 ·exact h.elim
def nr(x:Option AV)(d:Nat):Option (Prop×Nat):=
 match x with
 |none=>some (True,d)
 |some (.p (.int _ i))=>some (0<=i,i.toNat)
 |_=>none
theorem qC{x:Option AV}{d n:Nat}{p:Prop}{K:Nat->Prop}(h:nr x d=some (p,n))(a:p)(hk:K n):jW x d K:=by
 unfold nr at h;unfold jW
 split at h
 ·simp only[l4,Prod.mk.injEq]at h;obtain⟨rfl,rfl⟩:=h;exact hk
 ·simp only[l4,Prod.mk.injEq]at h;obtain⟨rfl,rfl⟩:=h;exact⟨a,hk⟩
 ·cases h
def Ai(P:c9)(T:da)(H:ak)(x:AV)(lo hi:Option AV):fZ:=
 match x with
 | .p (.str s)=>match nr hi s.length,nr lo 0 with
  |some (p,h),some (q,l)=>some (jG P T=true/\p/\q/\h<=s.length/\l<=h,{v:=.p (.str ((s.take h).drop l))})
  |_,_=>none
 | .p .aM=>match nr hi 0,nr lo 0 with
  |some (p,h),some (q,l)=>some ((dH P T).isSome=true/\p/\q/\h<=0/\l<=h,{v:=.p .aM})
  |_,_=>none
 | .p (.dD full es)=>match nr hi es.length,nr lo 0,dH P T with
  |some (p,h),some (q,l),some sz=>some (p/\q/\h<=es.length/\l<=h/\gP P sz (es.map .p),{v:=.p (.dD (full&&h==es.length) ((es.take h).drop l))})
  |_,_,_=>none
 | .p (.seq es)=>match nr hi es.length,nr lo 0,dH P T with
  |some (p,h),some (q,l),some sz=>some (p/\q/\h<=es.length/\l<=h/\gP P sz (es.map .p),{v:=.p (.seq ((es.take h).drop l))})
  |_,_,_=>none
 | .sl b aF an off len=>match H[b]? with
  |some (.arr k c a es)=>match nr hi len,nr lo 0 with
   |some (p,h),some (q,l)=>some ((aF=c/\an=a/\dH P T=some an/\¬(k.gr=true/\es=[])/\off+len<=es.length)/\p/\q/\off+h<=es.length/\l<=h,
    if l=0 then{v:=.sl b aF an off h,aA:=[(b,.arr k c a es)]}
    else if l=h then{v:=.p (.dD false []),aA:=[(b,.arr k c a es)]}
    else{v:=.sl b aF an (off+l) (h-l),aA:=[(b,.arr k c a es)]})
   |_,_=>none
  |_=>none
 |_=>none
theorem aud{T:da}{H:ak}{x:AV}{lo hi:Option AV}:Can (rV P T H x lo hi) (Ai P T H x lo hi):=by
 intro K h;unfold Ai at h;unfold rV
 split at h
 ·split at h
  case h_2=>exact h.elim
  rename_i a b;simp only[cN]at h;obtain⟨⟨c,a2,a3,a4,a5⟩,hk⟩:=h;exact⟨c,qC a a2 (qC b a3 ⟨a4,a5,hk⟩)⟩
 ·split at h
  case h_2=>exact h.elim
  rename_i a b;simp only[cN]at h;obtain⟨⟨c,a2,a3,a4,a5⟩,hk⟩:=h;exact⟨c,qC a a2 (qC b a3 ⟨a4,a5,hk⟩)⟩
 ·split at h
  case h_2=>exact h.elim
  rename_i a b e;simp only[cN]at h;obtain⟨⟨a2,a3,a4,a5,d⟩,hk⟩:=h;refine qC a a2 (qC b a3 ⟨a4,a5,?_⟩);simp only[e];exact⟨d,hk⟩
 ·split at h
  case h_2=>exact h.elim
  rename_i a b e;simp only[cN]at h;obtain⟨⟨a2,a3,a4,a5,d⟩,hk⟩:=h;refine qC a a2 (qC b a3 ⟨a4,a5,?_⟩);simp only[e];exact⟨d,hk⟩
 ·split at h
  case h_2=>exact h.elim
  rename_i i
  split at h
  case h_2=>exact h.elim
  rename_i a b;simp only[cN]at h;obtain⟨⟨⟨c,a2,a3,a4,a5⟩,d,f,g,a9⟩,hk⟩:=h;simp only[i];refine⟨c,a2,a3,a4,a5,qC a d (qC b f ⟨g,a9,?_⟩)⟩
  split
  ·rename_i hc;rw[if_pos hc]at hk;exact hk
  ·rename_i hc;rw[if_neg hc]at hk
   split
   ·rename_i hc;rw[if_pos hc]at hk;exact hk
   ·rename_i hc;rw[if_neg hc]at hk;exact hk
 ·exact h.elim
def DE(P:c9)(T:da)(H:ak)(x key:AV)(ok:Bool):fZ:=
 match nT P T,key with
 |some (a,E),.p key=>match cO P E with
  |some z=>match x with
   | .p .gB=>some (iw P a key=true,{v:=.p (if ok then .aE [z,.bool false]else z)})
   | .p (.fA es)=>match gw P a es key with
    |some r=>some (iw P a key=true,{v:= .p (match r with
      |some v=>if ok then .aE [v,.bool true]else v
      |none=>if ok then .aE [z,.bool false]else z)})
    |none=>none
   | .map b=>match H[b]? with
    |some (.map fz es)=>match gw P a es key with
     |some r=>some (iw P a key=true,{v:= .p (match r with
       |some v=>if ok then .aE [v,.bool true]else v
       |none=>if ok then .aE [z,.bool false]else z),aA:=[(b,.map fz es)]})
     |none=>none
    |_=>none
   |_=>none
  |none=>none
 |_,_=>none
def Bp(P:c9)(T:da)(H:ak)(m k x:AV):fZ:=
 match nT P T,m,k,x with
 |some (a,_),.map b,.p key,.p v=>match H[b]? with
  |some (.map false es)=>match pB P a es key with
   |some _=>some (iw P a key=true,{v:=.p (.aE []),aA:=[(b,.map false es)],aW:=[(b,.map false (gR es key v))]})
   |none=>none
  |_=>none
 |_,_,_,_=>none
def C5(P:c9)(T:da)(n:Nat)(x:AV):fZ:=
 match x with
 | .p (.str s)=>some (jG P T=true,{v:=.ptr n [],bm:=[.fC s 0]})
 |_=>none
def DG(H:ak)(a:AV):fZ:=
 match a with
 | .ptr b []=>match H[b]? with
  |some (.fC s pos)=>some (True,if pos<s.length then
   {v:=.p (.aE [.bool true,.int .i64 pos,.int .i32 (hM (iL s) pos).1]),aA:=[(b,.fC s pos)],aW:=[(b,.fC s (pos+(hM (iL s) pos).2))]}
   else{v:=.p (.aE [.bool false]),aA:=[(b,.fC s pos)]})
  |_=>none
 |_=>none
def DH(P:c9)(T:da)(n:Nat)(l c:AV):fZ:=
 match dH P T,cO P (fR P T),l,c with
 |some sz,some z,.p (.int .i64 l),.p (.int .i64 c)=>some (bZ P (aP z)=sz/\0<=l/\l=c/\l<=dA,{v:=.sl n 0 sz 0 l.toNat,bm:=[.arr .exact 0 sz (hW l.toNat (.p z))]})
 |_,_,_,_=>none
def CK(x:AV):fZ:=
 match x with
 | .ptr _ _| .cM _ _ _ _ _| .p (.cW _)=>some (True,{v:=x})
 |_=>none
def vW(b:Bool)(c:List AV):fZ:=
 match c with
 | .p (.int k a)::r=>match pj k b r a with
  |some n=>some (True,{v:=.p (.int k n)})
  |none=>none
 |_=>none
def DD(f:dl)(d c:List AV):fZ:=
 match fy d,fy c with
 |some a,some b=>some (True,{v:=.p (.func f a b)})
 |_,_=>some (True,{v:=.func f d c})
end
section
variable{P:c9}{aq:dl->Bool}
def DF(c a b:AV):fZ:=
 match c with
 | .p (.bool t)=>some (True,{v:=if t then a else b})
 |_=>none
def Df(P:c9)(T:da)(n:Nat):fZ:=
 match cO P T with
 |some z=>some (kindOf P T=aP z/\aP z≠.bad/\lQ T (aP z)=true,{v:=.ptr n [],bm:=[.box false (.p z)]})
 |none=>none
def IA(P:c9)(T:da)(n:Nat)(x:AV):fZ:=some (kindOf P T=aa x/\aa x≠.bad/\lQ T (aa x)=true,{v:=.ptr n [],bm:=[.box false x]})
def De(P:c9)(T:da)(parts:List (Nat×AV)):fZ:=
 match kindOf P T,cO P T with
 | .agg u,some z=>match dG P u with
  |some l=>some (aP z=.agg u/\ph P l parts,{v:=jm u (jD ((cz z).map .p) parts)})
  |none=>none
 |_,_=>none
def Ck(P:c9)(T:da)(n:Nat)(parts:List (Nat×AV))(b:Nat):fZ:=
 match dH P T,cO P (fR P T)with
 |some sz,some z=>some (bZ P (aP z)=sz/\n*sz<=1000000/\ph P (hW n sz) parts,{v:=.sl b 0 sz 0 n,bm:=[.arr .exact 0 sz (jD (hW n (.p z)) parts)]})
 |_,_=>none
def yx(op:dz)(k:dy)(a b:Int):Prop×PV:=
 match op with
 | .add=>(True,.int k (k.wrap (a+b)))
 | .sub=>(True,.int k (k.wrap (a-b)))
 | .mul=>(True,.int k (k.wrap (a*b)))
 | .quo=>(b≠0,.int k (k.wrap (a.tdiv b)))
 | .rem=>(b≠0,.int k (a.tmod b))
 | .and=>(True,.int k (k.wrap (cd k.bits a&&&cd k.bits b).toNat))
 | .or=>(True,.int k (k.wrap (cd k.bits a|||cd k.bits b).toNat))
 | .xor=>(True,.int k (k.wrap (cd k.bits a^^^cd k.bits b).toNat))
 | .andNot=>(True,.int k (k.wrap (cd k.bits a&&&~~~cd k.bits b).toNat))
 | .eql=>(True,.bool (a==b))
 | .neq=>(True,.bool (a !=b))
 | .lss=>(True,.bool (decide (a<b)))
 | .leq=>(True,.bool (decide (a<=b)))
 | .gtr=>(True,.bool (decide (a>b)))
 | .geq=>(True,.bool (decide (a>=b)))
 | .shl=>(0<=b,.int k (k.wrap (a*2^(min b.toNat k.bits))))
 | .shr=>(0<=b,.int k (a.fdiv (2^(min b.toNat k.bits))))
theorem aMw{op:dz}{k:dy}{a b:Int}{K:PV->Prop}(h:(yx op k a b).1)(hk:K (yx op k a b).2):tR op k a b K:=by
 cases op<;>simp only[yx,tR]at*<;>first|exact hk|exact⟨h,hk⟩
def Js(op:dz)(a b:List Nat):Option (Prop×PV):=
 match op with
 | .add=>some (a.length+b.length<9223372036854775808,.str (a++b))
 | .eql=>some (True,.bool (a==b))
 | .neq=>some (True,.bool (!(a==b)))
 | .lss=>some (True,.bool (lH a b))
 | .leq=>some (True,.bool (lH a b||a==b))
 | .gtr=>some (True,.bool (!(lH a b||a==b)))
 | .geq=>some (True,.bool (!(lH a b)))
 |_=>none
def kg(P:c9)(op:dz)(T:da)(c:Bool)(H:ak)(x y:AV):fZ:=
 match x,y with
 | .p (.int k a),.p (.int d b)=>some ((k=d\/op=.shl\/op=.shr)/\(yx op k a b).1,{v:=.p (yx op k a b).2})
 | .p (.str a),.p (.str b)=>match Js op a b with
  |some (p,v)=>some (p,{v:=.p v})
  |none=>none
 | .p (.bool a),.p (.bool b)=>match op with
  | .eql=>some (vf P T=true,{v:=.p (.bool (a==b))})
  | .neq=>some (vf P T=true,{v:=.p (.bool (!(a==b)))})
  |_=>none
 | .p (.st u fs),.p (.st u' gs)=>match jz P 9 T (.st u fs) (.st u' gs),op with
  |some r,.eql=>some (vR P T=true,{v:=.p (.bool r)})
  |some r,.neq=>some (vR P T=true,{v:=.p (.bool !r)})
  |_,_=>none
 |x,y=>match eh P T c y with
  |some k=>match dC H k x,op with
   |some r,.eql=>some (True,{v:=.p (.bool r),aA:=eX H x})
   |some r,.neq=>some (True,{v:=.p (.bool !r),aA:=eX H x})
   |_,_=>none
  |none=>none
theorem PW{op:dz}{T:da}{c:Bool}{H:ak}{x y:AV}{k:yN}{K:PV->Prop}(hk:eh P T c y=some k):ng P op T c H x y K=(match dC H k x,op with
  |some r,.eql=>K (.bool r)
  |some r,.neq=>K (.bool !r)
  |_,_=>False):=by
 have a:=hk;rcases O8 hk with⟨rfl,rfl,_⟩|⟨rfl,rfl,_⟩|⟨rfl,rfl,_⟩|⟨rfl,rfl,_⟩|⟨rfl,rfl,_⟩
 all_goals
  unfold ng;cases x with
  |p v=>
   cases v<;>simp only[a]<;>(generalize dC H _ _=r;cases r<;>cases op<;>rfl)
  |_=>simp only[a];(generalize dC H _ _=r;cases r<;>cases op<;>rfl)
theorem aLc{op:dz}{T:da}{c:Bool}{H:ak}{x y:AV}:Can (fun K=>ng P op T c H x y (fun v=>K {v:=.p v,aA:=eX H x})) (kg P op T c H x y):=by
 intro K h;unfold kg at h;unfold ng
 split at h
 ·exact⟨h.1.1,aMw h.1.2 h.2⟩
 ·split at h
  ·rename_i p v a;simp only[cN]at h;show tQ op _ _ _;unfold Js at a
   split at a<;>first
    |(simp only[l4,Prod.mk.injEq]at a
      obtain⟨b,d⟩:=a;rw[<-b,<-d]at h;simp only[tQ]
      first|exact h.2|exact⟨h.1,h.2⟩)
    |cases a
  ·exact h.elim
 ·split at h
  ·exact⟨h.1,h.2⟩
  ·exact⟨h.1,h.2⟩
  ·exact h.elim
 ·split at h
  ·rename_i e;simp only[cN]at h;simp only[e];exact⟨h.1,h.2⟩
  ·rename_i e;simp only[cN]at h;simp only[e];exact⟨h.1,h.2⟩
  ·exact h.elim
 ·rename_i b d f g
  split at h
  case h_2=>exact h.elim
  rename_i k hk;clear b d f g;show ng P op T c H x y _;rw[PW hk];generalize dC H k x=q at h⊢;cases q<;>cases op<;>first|exact h.elim|exact h.2
def EW(op:UnOp)(x:AV):fZ:=
 match op,x with
 | .not,.p (.bool b)=>some (True,{v:=.p (.bool (!b))})
 | .neg,.p (.int k n)=>some (True,{v:=.p (.int k (k.wrap (0-n)))})
 | .xor,.p (.int k n)=>some (True,{v:=.p (.int k (k.wrap (cd k.bits (if k.signed then -1 else k.max)^^^cd k.bits n).toNat))})
 |_,_=>none
def DB(P:c9)(S D:da)(x:AV):fZ:=
 match P.underlying S,P.underlying D,x with
 |some _,some (.int k),.p (.int _ n)=>some (True,{v:=.p (.int k (k.wrap n))})
 |some _,some .string,.p (.str s)=>some (True,{v:=.p (.str s)})
 |_,_,_=>none
def Cz(t:AV)(i:Nat):fZ:=
 match t with
 | .p (.aE vs)=>match vs[i]? with
  |some v=>some (True,{v:=.p v})
  |none=>none
 | .aE vs=>match vs[i]? with
  |some v=>some (True,{v})
  |none=>none
 |_=>none
def Dg(P:c9)(T:da)(x i:AV):fZ:=
 match x,i with
 | .p (.str s),.p (.int _ i)=>match s[i.toNat]? with
  |some c=>some (jG P T=true/\0<=i,{v:=.p (.int .u8 c)})
  |none=>none
 | .p (.st u es),.p (.int _ i)=>match iO P T,(l6 P u)[i.toNat]?,es[i.toNat]? with
  |some (u',n),some F,some g=>some (u'=u/\0<=i/\i.toNat<n/\kindOf P F=aP g,{v:=.p g})
  |_,_,_=>none
 |_,_=>none
def ED(P:c9)(T:da)(n:Nat)(H:ak)(x:AV):fZ:=
 match lenOf H x with
 |some (m,aA)=>some (mX P T x=true/\0<n,{v:=.p (.int .i64 m),aA})
 |none=>none
def qX(P:c9)(aq:dl->Bool)(o:Oper)(e:Env)(H:ak)(K:bg->Prop):Prop:=
 match o.op with
 | .move x| .assign x=>K {v:=ev e x}
 | .pick c a b=>cN (DF (ev e c) (ev e a) (ev e b)) K
 | .alloc T=>cN (Df P T H.length) K
 | .box T x=>cN (IA P T H.length (ev e x)) K
 | .build T parts=>cN (De P T (parts.toList.map fun(i,x)=>(i,ev e x))) K
 | .buildSlice T n parts=>cN (Ck P T n (parts.toList.map fun(i,x)=>(i,ev e x)) H.length) K
 | .load T a=>cN (AL P T H (ev e a)) K
 | .store T a x=>cN (Ah P T H (ev e a) (ev e x)) K
 | .binOp op T x y _=>cN (kg P op T (uf y) H (ev e x) (ev e y)) K
 | .unOp op _ x=>cN (EW op (ev e x)) K
 | .convert S D x=>cN (DB P S D (ev e x)) K
 | .extract t i=>cN (Cz (ev e t) i) K
 | .fieldAddr T a f=>cN (zC P T (ev e a) f) K
 | .indexAddr T x i=>cN (zB P T H (ev e x) (ev e i)) K
 | .index T x i=>cN (Dg P T (ev e x) (ev e i)) K
 | .slice T x lo hi none=>cN (Ai P T H (ev e x) (lo.map (ev e)) (hi.map (ev e))) K
 | .lookup T x i ok=>cN (DE P T H (ev e x) (ev e i) ok) K
 | .mapUpdate T m k x| .insert T m k x=>cN (Bp P T H (ev e m) (ev e k) (ev e x)) K
 | .range T x=>cN (C5 P T H.length (ev e x)) K
 | .next it true=>cN (DG H (ev e it)) K
 | .makeSlice T l c=>cN (DH P T H.length (ev e l) (ev e c)) K
 | .nilCheck x=>cN (CK (ev e x)) K
 | .call c=>match c.callee with
  | .builtin .len=>(match c.args.toList with
   |[x]=>cN (ED P (c.argTypes.getD 0 0) c.argTypes.size H (ev e x)) K
   |_=>False)
  | .builtin .append=>(match c.args.toList with
   |[s,x]=>c.argTypes.size=2/\cN (zU P (c.argTypes.getD 0 0) (c.argTypes.getD 1 0) H (ev e s) (ev e x)) K
   |_=>False)
  | .builtin .min=>cN (vW false (c.args.toList.map (ev e))) K
  | .builtin .max=>cN (vW true (c.args.toList.map (ev e))) K
  |_=>gO P aq o (ev e) H K
 |_=>gO P aq o (ev e) H K
theorem S4{o:Oper}{e:Env}{H:ak}{K:bg->Prop}(h:qX P aq o e H K):gO P aq o (ev e) H K:=by
 unfold qX at h;unfold gO;cases q:o.op<;>simp only[q]at h<;>simp only
 case move|assign=>exact h
 case pick c a b=>
  unfold DF at h
  split at h
  ·rename_i hc;simp only[hc];exact h.2
  ·exact h.elim
 case alloc T=>
  unfold Df at h
  split at h
  ·rename_i hz;simp only[cN]at h;simp only[hz];exact⟨h.1.1,h.1.2.1,h.1.2.2,h.2⟩
  ·exact h.elim
 case box T x=>exact⟨h.1.1,h.1.2.1,h.1.2.2,h.2⟩
 case build T parts=>
  unfold De at h
  split at h
  ·rename_i hk hz
   split at h
   ·rename_i w;simp only[cN]at h;simp only[hk,hz,w];exact⟨h.1.1,h.1.2,h.2⟩
   ·exact h.elim
  ·exact h.elim
 case buildSlice T n parts=>
  unfold Ck at h
  split at h
  ·rename_i hk hz;simp only[cN]at h;simp only[hk,hz];exact⟨h.1.1,h.1.2.1,h.1.2.2,h.2⟩
  ·exact h.elim
 case load T a=>exact awo K h
 case store T a x=>exact auc K h
 case binOp op T x y G=>exact aLc K h
 case unOp op T x=>
  unfold EW at h
  split at h
  ·rename_i hx;simp only[hx];exact h.2
  ·rename_i hx;simp only[hx];exact h.2
  ·rename_i hx;simp only[hx];exact h.2
  ·exact h.elim
 case convert S D x=>
  unfold DB at h
  split at h
  ·rename_i d g j;simp only[d,g,j];exact h.2
  ·rename_i d g j;simp only[d,g,j];exact h.2
  ·exact h.elim
 case extract t i=>
  unfold Cz at h
  split at h
  ·rename_i A
   split at h
   ·rename_i B;simp only[A,B];exact h.2
   ·exact h.elim
  ·rename_i A
   split at h
   ·rename_i B;simp only[A,B];exact h.2
   ·exact h.elim
  ·exact h.elim
 case fieldAddr T a f=>exact Zx K h
 case indexAddr T x i=>exact Zw K h
 case index T x i=>
  unfold Dg at h
  split at h
  ·rename_i hx hi
   split at h
   ·rename_i c hc;obtain⟨C,rfl⟩:=hR.1 hc;simp only[hx,hi];exact⟨h.1.1,h.1.2,C,h.2⟩
   ·exact h.elim
  ·rename_i hx hi
   split at h
   ·rename_i d g j;obtain⟨⟨g1,g2,g3,g4⟩,h⟩:=h;simp only[hx,hi,d,g,j];exact⟨g1,g2,g3,g4,h⟩
   ·exact h.elim
  ·exact h.elim
 case slice T x lo hi F=>
  cases F with
  |none=>exact aud K h
  |some m=>simp only[gO,q]at h
 case lookup T x i ok=>
  unfold DE at h
  split at h
  case h_2=>exact h.elim
  rename_i E hi;simp only[E,hi]
  split at h
  case h_2=>exact h.elim
  rename_i z hz;simp only[hz]
  split at h
  ·rename_i hx;simp only[hx];exact h
  ·rename_i I hx;simp only[hx]
   split at h
   case h_2=>exact h.elim
   rename_i r p;refine⟨h.1,?_⟩;simp only[p];cases r<;>exact h.2
  ·rename_i b hx;simp only[hx]
   split at h
   ·rename_i u
    split at h
    case h_2=>exact h.elim
    rename_i r p;refine⟨h.1,?_⟩;simp only[u,p];cases r<;>exact h.2
   ·exact h.elim
  ·exact h.elim
 case mapUpdate T m k x|insert T m k x=>
  unfold Bp at h
  split at h
  ·rename_i d g j v;simp only[d,g,j,v]
   split at h
   ·rename_i u
    split at h
    case h_2=>exact h.elim
    rename_i p;refine⟨h.1,?_⟩;simp only[u,p];exact h.2
   ·exact h.elim
  ·exact h.elim
 case range T x=>
  unfold C5 at h
  split at h
  ·rename_i hx;simp only[hx];exact h
  ·exact h.elim
 case next it s=>
  cases s with
  |false=>simp only[gO,q]at h
  |true=>
   dsimp only at h⊢;unfold DG at h
   split at h
   case h_2=>exact h.elim
   rename_i hx;simp only[hx]
   split at h
   case h_2=>exact h.elim
   rename_i u;simp only[u];have h:=h.2
   split
   ·rename_i hc;rw[if_pos hc]at h;exact h
   ·rename_i hc;rw[if_neg hc]at h;exact h
 case makeSlice T l c=>
  unfold DH at h
  split at h
  ·rename_i d g j v;simp only[d,g,j,v];exact⟨h.1.1,h.1.2.1,h.1.2.2.1,h.1.2.2.2,h.2⟩
  ·exact h.elim
 case nilCheck x=>
  unfold CK at h
  split at h
  ·rename_i hx;simp only[hx];rw[hx]at h;exact h.2
  ·rename_i hx;simp only[hx];rw[hx]at h;exact h.2
  ·rename_i hx;simp only[hx];rw[hx]at h;exact h.2
  ·exact h.elim
 case call c=>
  split at h
  ·rename_i hc
   split at h
   ·rename_i x hx;unfold ED at h
    split at h
    ·rename_i w;simp only[cN]at h;simp only[hc,hx,hX,i9,w];exact⟨h.1.1,h.1.2,h.2⟩
    ·exact h.elim
   ·exact h.elim
  ·rename_i hc
   split at h
   ·rename_i s x hx;simp only[hc,hx,hX,i9];exact⟨h.1,aq4 K h.2⟩
   ·exact h.elim
  ·rename_i hc;unfold vW at h
   split at h
   case h_2=>exact h.elim
   rename_i hx
   split at h
   case h_2=>exact h.elim
   rename_i p;simp only[hc,hx,p];exact h.2
  ·rename_i hc;unfold vW at h
   split at h
   case h_2=>exact h.elim
   rename_i hx
   split at h
   case h_2=>exact h.elim
   rename_i p;simp only[hc,hx,p];exact h.2
  ·unfold gO at h;simp only[q]at h;exact h
 all_goals first
  |exact h
  |(unfold gO at h
    simp only[q]at h;exact h)
  |(unfold gO at h
    simp only[q]at h)
end
section
variable{P:c9}{aq:dl->Bool}
def Q6(dst:Option Tmp)(s:St)(K:St->Prop)(e:bg):Prop:=K (e.app dst s)
def V1(dst:Option Tmp)(s:St)(K:St->Prop)(v:AV)(H:ak):Prop:=K ⟨put dst v s.env,H⟩
def DC(P:c9)(f:AV)(args:List AV)(H:ak)(K:AV->ak->Prop):Prop:=
 match f with
 | .p (.func g c a)=>mu P false g (c.map .p++args++a.map .p) H K
 | .func g c a=>mu P false g (c++args++a) H K
 | .map b=>∃H' v,gJ P b H args H' v/\K v H'
 |_=>False
def Dd(P:c9)(f:AV)(args:List AV)(H:ak)(K:bg->Prop):Prop:=
 match f with
 | .p (.func g c a)=>mw P g (c.map .p++args++a.map .p) H K
 | .func g c a=>mw P g (c++args++a) H K
 | .map b=>∃e,sy P b args H.length e/\sC H e/\K e
 |_=>False
def qm(P:c9)(aq:dl->Bool)(o:Oper)(K:St->Prop)(s:St):Prop:=
 match o.op with
 | .call {callee:=.value f,args,.. }=>DC P (ev s.env f) (args.toList.map (ev s.env)) s.heap (V1 o.dst s K)
 |_=>qX P aq o s.env s.heap (Q6 o.dst s K)
def nK(P:c9)(aq:dl->Bool)(o:Oper)(s:St)(K:bg->Prop):Prop:=
 match o.op with
 | .call {callee:=.value f,args,.. }=>Dd P (ev s.env f) (args.toList.map (ev s.env)) s.heap K
 |_=>qX P aq o s.env s.heap K
theorem asw{o:Oper}{K:St->Prop}{s:St}(h:qm P aq o K s):mf P aq false o K s:=by
 unfold qm at h;unfold mf
 split at h
 ·rename_i f args b a;simp only[a];unfold DC at h
  split at h
  ·rename_i hf;simp only[hf];exact h
  ·rename_i hf;simp only[hf];exact h
  ·rename_i hf;simp only[hf];exact h
  ·exact h.elim
 ·rename_i c
  split
  ·rename_i f args b a;exact(c _ _ _ a).elim
  ·exact S4 h
theorem atK{o:Oper}{K:bg->Prop}{s:St}(h:nK P aq o s K):lS P aq o s K:=by
 unfold nK at h;unfold lS
 split at h
 ·rename_i f args b a;simp only[a];unfold Dd at h
  split at h
  ·rename_i hf;simp only[hf];exact h
  ·rename_i hf;simp only[hf];exact h
  ·rename_i hf;simp only[hf];exact h
  ·exact h.elim
 ·rename_i c
  split
  ·rename_i f args b a;exact(c _ _ _ a).elim
  ·exact S4 h
def lV(P:c9)(aq:dl->Bool)(a:Array Oper):List Oper->(St->Prop)->St->Prop
 |[],K,s=>K s
 |o::r,K,s=>match o.guard with
  |none=>qm P aq o (lV P aq a r K) s
  |some (j,want)=>match guardOf a j s.env with
   | .p (.bool t)=>if t=want then qm P aq o (lV P aq a r K) s else lV P aq a r K ⟨put o.dst (.p (.aE [])) s.env,s.heap⟩
   | .p (.aE [])=>lV P aq a r K ⟨put o.dst (.p (.aE [])) s.env,s.heap⟩
   |_=>False
def lI(P:c9)(aq:dl->Bool)(a:Array Oper):List Oper->Nat->List Touch->(St->Prop)->St->Prop
 |[],_,acc,K,s=>jY a acc=true/\K s
 |o::r,i,acc,K,s=>match o.guard with
  |none=>nK P aq o s fun e=>lI P aq a r (i+1) (iH i s.heap.length e acc) K (e.app o.dst s)
  |some (j,want)=>match guardOf a j s.env with
   | .p (.bool t)=>if t=want then nK P aq o s fun e=>lI P aq a r (i+1) (iH i s.heap.length e acc) K (e.app o.dst s)
    else lI P aq a r (i+1) acc K ⟨put o.dst (.p (.aE [])) s.env,s.heap⟩
   | .p (.aE [])=>lI P aq a r (i+1) acc K ⟨put o.dst (.p (.aE [])) s.env,s.heap⟩
   |_=>False
theorem Du{b:Array Oper}:∀(l:List Oper){K a:St->Prop}{s:St},(∀s,K s->a s)->lV P aq b l K s->je P aq false b l a s
 |[],K,a,s,hk,h=>by simp only[lV]at h;simp only[je];exact hk s h
 |o::l,K,a,s,hk,h=>by
  have go:qm P aq o (lV P aq b l K) s->mf P aq false o (je P aq false b l a) s:=fun h=>by
   obtain⟨t,f,g⟩:=PD false o s _ (asw h);exact g _ (Du l hk f)
  simp only[lV]at h;simp only[je]
  split at h
  ·rename_i c;simp only[c];exact go h
  ·rename_i j i c;simp only[c]
   split at h
   ·rename_i t d;simp only[d]
    split at h
    ·rename_i e;rw[if_pos e];exact go h
    ·rename_i e;rw[if_neg e];exact Du l hk h
   ·rename_i d;simp only[d];exact Du l hk h
   ·exact h.elim
theorem CU{c:Array Oper}:∀(l:List Oper){i:Nat}{a:List Touch}{K b:St->Prop}{s:St},(∀s,K s->b s)->lI P aq c l i a K s->iG P aq c l i a b s
 |[],i,a,K,b,s,hk,h=>by simp only[lI]at h;simp only[iG];exact⟨h.1,hk s h.2⟩
 |o::l,i,a,K,b,s,hk,h=>by
  have go:nK P aq o s (fun e=>lI P aq c l (i+1) (iH i s.heap.length e a) K (e.app o.dst s))->lS P aq o s (fun e=>iG P aq c l (i+1) (iH i s.heap.length e a) b (e.app o.dst s)):=fun h=>by
   obtain⟨e,k,m⟩:=PE o s _ (atK h);exact m _ (CU l hk k)
  simp only[lI]at h;simp only[iG]
  split at h
  ·rename_i d;simp only[d];exact go h
  ·rename_i j n d;simp only[d]
   split at h
   ·rename_i t f;simp only[f]
    split at h
    ·rename_i g;rw[if_pos g];exact go h
    ·rename_i g;rw[if_neg g];exact CU l hk h
   ·rename_i f;simp only[f];exact CU l hk h
   ·exact h.elim
def DV(v:AV)(a b:St->Prop)(s:St):Prop:=
 match v with
 | .p (.bool t)=>if t then a s else b s
 |_=>False
def We(K:St->Prop)(Q:bL->St->Prop)(e:bL)(s:St):Prop:=
 match e with
 | .normal=>K s
 |e=>Q e s
def gv(P:c9)(aq:dl->Bool)(q:Cx):Code->(bL->St->Prop)->St->Prop
 | .skip,Q,s| .label _,Q,s=>Q .normal s
 | .region _ ops draw,Q,s=>if draw then lI P aq ops ops.toList 0 [] (Q .normal) s else lV P aq ops ops.toList (Q .normal) s
 | .seq a b,Q,s=>gv P aq q a (We (gv P aq q b Q) Q) s
 | .cond c a b,Q,s=>DV (ev s.env c) (gv P aq q a Q) (gv P aq q b Q) s
 | .block id b,Q,s=>gv P aq q b (tL id Q) s
 | .scope b,Q,s=>gv P aq q b Q s
 | .loop b,Q,s=>∃I:Nat->St->Prop,(∃n t,dh q.2 s t/\I n t)/\∀n t,I n t->gv P aq q b (xS q.2 n I Q) t
 | .rangeFunc f d a b,Q,s=>q.2<=s.heap.length/\lJ P (ev s.env f) s.heap.length (s.heap++[.loop ⟨.ready,none,q.1,d.toList,a,b,s.env⟩]) (jw s.heap.length s.env Q)
 | .exit id,Q,s=>Q (.exit id) s
 | .ret,Q,s=>Q .ret s
 |_,_,_=>False
theorem atf{Q a:bL->St->Prop}(hq:∀e s,Q e s->a e s){j:Option Code}{s:St}(h:lO Q j s):lO a j s:=by
 unfold lO at h⊢
 split at h
 ·exact hq _ _ h
 ·exact hq _ _ h
 ·exact hq _ _ h
 ·exact h.elim
theorem Pm{Q a:bL->St->Prop}(hq:∀e s,Q e s->a e s){b:Nat}{env:Env}{H:ak}(h:jw b env Q H):jw b env a H:=by
 unfold jw at h⊢
 split at h
 ·exact⟨h.1,atf hq h.2⟩
 ·exact h.elim
theorem Ph{e:AV}{b:Nat}{H:ak}{K d:ak->Prop}(hk:∀H,K H->d H)(h:lJ P e b H K):lJ P e b H d:=by
 unfold lJ at h⊢
 split at h
 ·obtain⟨H',v,a,c⟩:=h;exact⟨H',v,a,hk _ c⟩
 ·obtain⟨H',v,a,c⟩:=h;exact⟨H',v,a,hk _ c⟩
 ·exact h.elim
theorem o6{q:Cx}:∀(c:Code){Q Q':bL->St->Prop}{s:St},(∀e s,Q e s->Q' e s)->gv P aq q c Q s->cQ P aq q c Q' s
 | .skip,Q,Q',s,hq,h| .label _,Q,Q',s,hq,h=>by simp only[gv]at h;simp only[cQ];exact hq _ _ h
 | .exit _,Q,Q',s,hq,h| .ret,Q,Q',s,hq,h=>by simp only[gv]at h;simp only[cQ];exact hq _ _ h
 | .region id ops draw,Q,Q',s,hq,h=>by
  simp only[gv]at h;simp only[cQ]
  split at h
  ·rename_i j;rw[if_pos j];exact CU _ (hq _) h
  ·rename_i j;rw[if_neg j];exact Du _ (hq _) h
 | .seq a b,Q,Q',s,hq,h=>by
  simp only[gv]at h;simp only[cQ];refine o6 a (fun e s d=>?_) h;cases e with
  |normal=>exact o6 b hq d
  |exit id=>exact hq _ _ d
  |ret=>exact hq _ _ d
 | .cond c a b,Q,Q',s,hq,h=>by
  simp only[gv]at h;simp only[cQ];unfold DV at h
  split at h
  ·rename_i t m;simp only[m]
   split at h
   ·rename_i g;rw[if_pos g];exact o6 a hq h
   ·rename_i g;rw[if_neg g];exact o6 b hq h
  ·exact h.elim
 | .block id b,Q,Q',s,hq,h=>by
  simp only[gv]at h;simp only[cQ];refine o6 b (fun e s d=>?_) h;cases e with
  |normal=>exact hq _ _ d
  |exit i=>
   simp only[tL]at d
   by_cases hi:i=id
   ·simp only[hi,if_true]at d⊢;exact hq _ _ d
   ·simp only[hi,if_false]at d⊢;exact hq _ _ d
  |ret=>exact hq _ _ d
 | .scope b,Q,Q',s,hq,h=>by simp only[gv]at h;simp only[cQ];exact o6 b hq h
 | .loop b,Q,Q',s,hq,h=>by
  simp only[gv]at h;simp only[cQ];obtain⟨I,k,l⟩:=h;refine⟨I,k,fun n t hI=>o6 b (fun e s d=>?_) (l n t hI)⟩;cases e with
  |normal=>exact d
  |exit id=>exact hq _ _ d
  |ret=>exact hq _ _ d
 | .rangeFunc f o a b,Q,Q',s,hq,h=>by
  simp only[gv]at h;simp only[cQ];exact⟨h.1,s.env,fun _=>rfl,Ph (fun H=>Pm hq) h.2⟩
 | .goto _,_,_,_,_,h| .refuse _,_,_,_,_,h=>by simp[gv]at h
end
section
variable{P:c9}{aq:dl->Bool}{q:Cx}
def Ul(P:c9)(aq:dl->Bool)(b:Array Oper)(r:List Oper)(i:Nat)(a:List Touch)(K:St->Prop)(dst:Option Tmp)(s:St)(e:bg):Prop:=
 lI P aq b r (i+1) (iH i s.heap.length e a) K (e.app dst s)
def aMm(P:c9)(aq:dl->Bool)(b:Array Oper)(o:Oper)(r:List Oper)(i:Nat)(a:List Touch)(K:St->Prop)(c:Bool)(s:St)(g:AV):Prop:=
 match g with
 | .p (.bool t)=>if t=c then nK P aq o s (Ul P aq b r i a K o.dst s)else lI P aq b r (i+1) a K ⟨put o.dst (.p (.aE [])) s.env,s.heap⟩
 | .p (.aE [])=>lI P aq b r (i+1) a K ⟨put o.dst (.p (.aE [])) s.env,s.heap⟩
 |_=>False
def aMl(P:c9)(aq:dl->Bool)(a:Array Oper)(o:Oper)(r:List Oper)(K:St->Prop)(b:Bool)(s:St)(g:AV):Prop:=
 match g with
 | .p (.bool t)=>if t=b then qm P aq o (lV P aq a r K) s else lV P aq a r K ⟨put o.dst (.p (.aE [])) s.env,s.heap⟩
 | .p (.aE [])=>lV P aq a r K ⟨put o.dst (.p (.aE [])) s.env,s.heap⟩
 |_=>False
end
section
variable{P:c9}
@[simp] theorem aUr{b:Bool}:aP (.bool b)=.leaf:=(rfl)
@[simp] theorem aUU{k:dy}{n:Int}:aP (.int k n)=.leaf:=(rfl)
@[simp] theorem aU1{l:List Nat}:aP (.str l)=.leaf:=(rfl)
@[simp] theorem aUX:aP .aM=.leaf:=(rfl)
@[simp] theorem aUY{l:List PV}:aP (.seq l)=.leaf:=(rfl)
@[simp] theorem aUT{l:List (PV×PV)}:aP (.fA l)=.leaf:=(rfl)
@[simp] theorem aUW:aP .iV=.leaf:=(rfl)
@[simp] theorem aU0{u:da}{fs:List PV}:aP (.st u fs)=.agg u:=(rfl)
@[simp] theorem aUo{v:PV}:aa (.p v)=aP v:=(rfl)
@[simp] theorem aUq{u:da}{fs:List AV}:aa (.st u fs)=.agg u:=(rfl)
@[simp] theorem aUp{b v e o l:Nat}:aa (.sl b v e o l)=.leaf:=(rfl)
@[simp] theorem aUn{f:dl}{a b:List AV}:aa (.func f a b)=.leaf:=(rfl)
@[simp] theorem aTe{u:da}{fs:List PV}:cz (.st u fs)=fs:=(rfl)
attribute [simp] lN zU nr Ai DE Bp C5 DG DH CK vW kT eX gP iw nT qR pB xK gk jG pj ar9 asa ZA aol arc Zo Z0 aqw aV put jX ev ofConst bu iH jb rX fY nC iu jm fy DF Df IA lQ De Ck kg yx Js EW DB Cz Dg ED AL Ah zC zB lenOf mX jD ph bZ uf iE tN oneOf gC
end
section
variable{P:c9}{aq:dl->Bool}
def sE:lX->lX->Bool
 | .leaf,.leaf=>true
 | .agg u,.agg v=>la u v
 |_,_=>false
theorem jZ{a b:lX}(h:sE a b=true):a=b/\b≠.bad:=by
 cases a<;>cases b<;>simp_all [sE]
def kE:AK->AK->Bool
 | .exact,.exact| .grow,.grow| .frozen,.frozen| .bytes,.bytes=>true
 |_,_=>false
def Je:AK->Bool
 | .frozen=>false
 |_=>true
theorem aOG{k:AK}(h:Je k=true):k≠.frozen:=by cases k<;>simp_all [Je]
def EH(k:AK)(a:List AV):Bool:=match k.gr,a with
 |true,[]=>false
 |_,_=>true
theorem Ps{k:AK}{a:List AV}(h:EH k a=true):¬(k.gr=true/\a=[]):=by
 rintro⟨b,rfl⟩;simp[EH,b]at h
theorem gU{a b:Nat}(h:la a b=true):a=b:=Nat.eq_of_beq_eq_true h
theorem fk{a b:Nat}(h:kX a b=true):a<=b:=Nat.le_of_ble_eq_true h
def UD:dy->dy->Bool:=fun a b=>decide (a=b)
def AM(P:c9)(l:List Nat):List (Nat×AV)->Bool
 |[]=>true
 |(i,v)::r=>(match l[i]? with
  |some n=>la (bZ P (aa v)) n&&(match aa v with
   | .bad=>false
   |_=>true)
  |none=>false)&&AM P l r
theorem GA{l:List Nat}:∀{r:List (Nat×AV)},AM P l r=true->ph P l r
 |[],_=>trivial
 |(i,v)::r,h=>by
  simp only[AM,ck]at h;refine⟨?_,GA h.2⟩;have a:=h.1
  split at a
  ·rename_i n hn;simp only[ck]at a;refine⟨n,hn,gU a.1,fun b=>?_⟩;rw[b]at a;simp at a
  ·simp at a
def vq(P:c9)(sz:Nat):List AV->Bool
 |[]=>true
 |v::r=>(match aa v with
  | .bad=>false
  |s=>la (bZ P s) sz)&&vq P sz r
theorem Aj{sz:Nat}:∀{r:List AV},vq P sz r=true->gP P sz r
 |[],_=>trivial
 |v::r,h=>by
  simp only[vq,ck]at h;refine⟨?_,Aj h.2⟩;have a:=h.1
  split at a
  ·simp at a
  ·rename_i b;exact⟨b,gU a⟩
def Jb(P:c9)(T:da)(H:ak)(a:AV):Option bg:=
 match a with
 | .ptr b path=>match H[b]? with
  |some (.box fz t)=>match fY t path with
   |some s=>bif sE (kindOf P T) (aa s)then some {v:=s,aA:=[(b,.box fz t)]}else none
   |none=>none
  |_=>none
 | .cM b aF an i path=>match H[b]? with
  |some (.arr k d c es)=>bif la aF d&&la an c then match es[i]? with
   |some x=>match fY x path with
    |some s=>bif sE (kindOf P T) (aa s)then some {v:=s,aA:=[(b,.arr k d c es)]}else none
    |none=>none
   |none=>none
   else none
  |_=>none
 | .p (.cW t)=>bif sE (kindOf P T) (aP t)then some {v:=.p t}else none
 |_=>none
theorem avQ{T:da}{H:ak}{a:AV}{e:bg}{K:bg->Prop}(h:Jb P T H a=some e)(hk:K e):sv P T H a K:=by
 unfold Jb at h;unfold sv
 split at h
 ·split at h
  ·split at h
   ·rename_i hs;simp only[cx,lW,l4]at h;rename_i c _ _;obtain⟨b,rfl⟩:=h;simp only[c,hs];exact⟨(jZ b).1,hk⟩
   ·simp at h
  ·simp at h
 ·split at h
  ·rename_i c;simp only[cx,lW,ck]at h;obtain⟨⟨b,d⟩,h⟩:=h
   split at h
   ·rename_i hx
    split at h
    ·rename_i hs;simp only[lW,l4]at h;obtain⟨f,rfl⟩:=h;obtain⟨hi,rfl⟩:=hR.1 hx;simp only[c];refine⟨gU b,gU d,hi,?_⟩;simp only[hs];exact⟨(jZ f).1,hk⟩
    ·simp at h
   ·simp at h
  ·simp at h
 ·simp only[cx,lW,l4]at h;obtain⟨b,rfl⟩:=h;exact⟨(jZ b).1,hk⟩
 ·simp at h
def HW(P:c9)(T:da)(H:ak)(a x:AV):Option bg:=
 bif sE (kindOf P T) (aa x)then match a with
 | .ptr b path=>match H[b]? with
  |some (.box false t)=>match fY t path,iu t path x with
   |some s,some d=>bif sE (aa s) (aa x)then some {v:=.p (.aE []),aA:=[(b,.box false t)],aW:=[(b,.box false d)]}else none
   |_,_=>none
  |_=>none
 | .cM b aF an i path=>match H[b]? with
  |some (.arr k e c es)=>bif la aF e&&(la an c&&Je k)then match es[i]? with
   |some y=>match fY y path,iu y path x with
    |some s,some d=>bif sE (aa s) (aa x)then some {v:=.p (.aE []),aA:=[(b,.arr k e c es)],aW:=[(b,.arr k e c (es.set i d))]}else none
    |_,_=>none
   |none=>none
   else none
  |_=>none
 |_=>none
 else none
theorem arO{T:da}{H:ak}{a x:AV}{e:bg}{K:bg->Prop}(h:HW P T H a x=some e)(hk:K e):rU P T H a x K:=by
 unfold HW at h;unfold rU;simp only[cx,lW]at h;obtain⟨f,h⟩:=h;refine⟨(jZ f).1,(jZ f).2,?_⟩
 split at h
 ·split at h
  ·rename_i c
   split at h
   ·rename_i hs d;simp only[lW,l4]at h;obtain⟨b,rfl⟩:=h;simp only[c,hs,d];exact⟨(jZ b).1,hk⟩
   ·simp at h
  ·simp at h
 ·split at h
  ·rename_i c;simp only[lW,ck]at h;obtain⟨⟨b,g,i⟩,h⟩:=h
   split at h
   ·rename_i k
    split at h
    ·rename_i hs d;simp only[lW,l4]at h;obtain⟨j,rfl⟩:=h;obtain⟨hi,rfl⟩:=hR.1 k;simp only[c];refine⟨gU b,gU g,aOG i,hi,?_⟩;simp only[hs,d];exact⟨(jZ j).1,hk⟩
    ·simp at h
   ·simp at h
  ·simp at h
 ·simp at h
def IX(op:dz)(k:dy)(a b:Int):Option PV:=
 match op with
 | .add=>some (.int k (k.wrap (a+b)))
 | .sub=>some (.int k (k.wrap (a-b)))
 | .mul=>some (.int k (k.wrap (a*b)))
 | .quo=>match b with
  | .ofNat 0=>none
  |b=>some (.int k (k.wrap (a.tdiv b)))
 | .rem=>match b with
  | .ofNat 0=>none
  |b=>some (.int k (a.tmod b))
 | .and=>some (.int k (k.wrap (cd k.bits a&&&cd k.bits b).toNat))
 | .or=>some (.int k (k.wrap (cd k.bits a|||cd k.bits b).toNat))
 | .xor=>some (.int k (k.wrap (cd k.bits a^^^cd k.bits b).toNat))
 | .andNot=>some (.int k (k.wrap (cd k.bits a&&&~~~cd k.bits b).toNat))
 | .eql=>some (.bool (a==b))
 | .neq=>some (.bool (a !=b))
 | .lss=>some (.bool (decide (a<b)))
 | .leq=>some (.bool (decide (a<=b)))
 | .gtr=>some (.bool (decide (a>b)))
 | .geq=>some (.bool (decide (a>=b)))
 | .shl=>match b with
  | .ofNat _=>some (.int k (k.wrap (a*2^(min b.toNat k.bits))))
  |_=>none
 | .shr=>match b with
  | .ofNat _=>some (.int k (a.fdiv (2^(min b.toNat k.bits))))
  |_=>none
theorem aMx{op:dz}{k:dy}{a b:Int}{v:PV}{K:PV->Prop}(h:IX op k a b=some v)(hk:K v):tR op k a b K:=by
 cases op<;>simp only[IX]at h<;>simp only[tR]
 case quo|rem=>
  split at h
  ·simp at h
  ·rename_i d;simp only[l4]at h;subst h;exact⟨fun c=>d (by rw[c];rfl),hk⟩
 case shl|shr=>
  split at h
  ·simp only[l4]at h;subst h;exact⟨hP _,hk⟩
  ·simp at h
 all_goals (simp only[l4]at h;subst h;exact hk)
def Iz(P:c9)(op:dz)(T:da)(c:Bool)(H:ak)(x y:AV):Option PV:=
 match x,y with
 | .p (.int k a),.p (.int d b)=>bif UD k d||(match op with
  | .shl| .shr=>true
  |_=>false)then IX op k a b else none
 | .p (.str a),.p (.str b)=>match op with
  | .add=>bif kX (a.length+b.length) 9223372036854775807 then some (.str (a++b))else none
  | .eql=>some (.bool (a==b))
  | .neq=>some (.bool (!(a==b)))
  | .lss=>some (.bool (lH a b))
  | .leq=>some (.bool (lH a b||a==b))
  | .gtr=>some (.bool (!(lH a b||a==b)))
  | .geq=>some (.bool (!(lH a b)))
  |_=>none
 | .p (.bool a),.p (.bool b)=>bif vf P T then match op with
  | .eql=>some (.bool (a==b))
  | .neq=>some (.bool (!(a==b)))
  |_=>none
  else none
 | .p (.st u fs),.p (.st u' gs)=>bif vR P T then match jz P 9 T (.st u fs) (.st u' gs),op with
  |some r,.eql=>some (.bool r)
  |some r,.neq=>some (.bool !r)
  |_,_=>none
  else none
 |x,y=>match eh P T c y with
  |some k=>match dC H k x,op with
   |some r,.eql=>some (.bool r)
   |some r,.neq=>some (.bool !r)
   |_,_=>none
  |none=>none
theorem aAE{op:dz}{T:da}{c:Bool}{H:ak}{x y:AV}{v:PV}{K:PV->Prop}(h:Iz P op T c H x y=some v)(hk:K v):ng P op T c H x y K:=by
 unfold Iz at h;unfold ng
 split at h
 ·simp only[cx,lW,c6,UD,decide_eq_true_eq]at h;refine⟨?_,aMx h.2 hk⟩;rcases h.1 with b|b
  ·exact .inl b
  ·cases op<;>simp at b<;>simp
 ·split at h<;>simp only[tQ]
  ·simp only[cx,lW,l4]at h;obtain⟨b,rfl⟩:=h;exact⟨by have:=fk b;omega,hk⟩
  ·simp only[l4]at h;subst h;exact hk
  ·simp only[l4]at h;subst h;exact hk
  ·simp only[l4]at h;subst h;exact hk
  ·simp only[l4]at h;subst h;exact hk
  ·simp only[l4]at h;subst h;exact hk
  ·simp only[l4]at h;subst h;exact hk
  ·simp at h
 ·simp only[cx,lW]at h;refine⟨h.1,?_⟩;have a:=h.2
  split at a
  ·simp only[l4]at a;subst a;exact hk
  ·simp only[l4]at a;subst a;exact hk
  ·simp at a
 ·simp only[cx,lW]at h;refine⟨h.1,?_⟩;have a:=h.2
  split at a
  ·rename_i d;simp only[l4]at a;subst a;simp only[d];exact hk
  ·rename_i d;simp only[l4]at a;subst a;simp only[d];exact hk
  ·simp at a
 ·split at h
  case h_2=>simp at h
  rename_i k f;show ng P op T c H x y _;rw[PW f];obtain⟨r,e,d⟩:∃r,dC H k x=some r/\((op=.eql/\v=.bool r)\/(op=.neq/\v=.bool !r)):=by
   revert h;generalize dC H k x=q;intro h;cases q with
   |none=>simp at h
   |some r=>cases op<;>simp at h<;>exact⟨r,rfl,by simp[h]⟩
  rw[e];rcases d with⟨rfl,rfl⟩|⟨rfl,rfl⟩<;>exact hk
def Gq(P:c9)(T:da)(a:AV)(f:Nat):Option bg:=
 match fp P T with
 |some (u,n)=>bif kX (f+1) n then match a with
  | .ptr b path=>some {v:=.ptr b (path++[(u,f)])}
  | .cM b aF an i path=>some {v:=.cM b aF an i (path++[(u,f)])}
  | .p (.cW t)=>bif sE (aP t) (.agg u)then match(cz t)[f]? with
   |some g=>some {v:=.p (.cW g)}
   |none=>none
   else none
  |_=>none
  else none
 |_=>none
theorem Zu{T:da}{a:AV}{f:Nat}{e:bg}{K:bg->Prop}(h:Gq P T a f=some e)(hk:K e):rK P T a f K:=by
 unfold Gq at h;unfold rK
 split at h
 ·rename_i hs;simp only[cx,lW]at h;obtain⟨b,h⟩:=h;simp only[hs];refine⟨by have:=fk b;omega,?_⟩
  split at h
  ·simp only[l4]at h;subst h;exact hk
  ·simp only[l4]at h;subst h;exact hk
  ·simp only[lW]at h;obtain⟨c,h⟩:=h
   split at h
   ·rename_i d;simp only[l4]at h;subst h;simp only[d];exact⟨(jZ c).1,hk⟩
   ·simp at h
  ·simp at h
 ·simp at h
def oE(a:Option Nat)(b:Nat):Bool:=match a with
 |some x=>la x b
 |none=>false
theorem DY{a:Option Nat}{b:Nat}(h:oE a b=true):a=some b:=by
 unfold oE at h;split at h
 ·rw[gU h]
 ·simp at h
def Gm(P:c9)(T:da)(H:ak)(x i:AV):Option bg:=
 match i with
 | .p (.int _ (.ofNat i))=>match x with
  | .p (.dD _ es)=>match es[i]? with
   |some y=>bif oE (dH P T) (bZ P (aP y))then some {v:=.p (.cW y)}else none
   |none=>none
  | .p (.seq es)=>match es[i]? with
   |some y=>bif oE (dH P T) (bZ P (aP y))then some {v:=.p (.cW y)}else none
   |none=>none
  | .sl b aF an off len=>bif oE (dH P T) an&&kX (i+1) len then match H[b]? with
   |some (.arr k c a es)=>bif la aF c&&(la an a&&EH k es)then some {v:=.cM b aF an (off+i) [],aA:=[(b,.arr k c a es)]}else none
   |_=>none
   else none
  | .ptr b path=>match iO P T with
   |some (u,n)=>bif kX (i+1) n then some {v:=.ptr b (path++[(u,i)])}else none
   |_=>none
  | .cM b aF an j path=>match iO P T with
   |some (u,n)=>bif kX (i+1) n then some {v:=.cM b aF an j (path++[(u,i)])}else none
   |_=>none
  | .p (.cW t)=>match iO P T with
   |some (u,n)=>bif sE (aP t) (.agg u)&&kX (i+1) n then match(cz t)[i]? with
    |some g=>some {v:=.p (.cW g)}
    |none=>none
    else none
   |_=>none
  |_=>none
 |_=>none
theorem ZE{T:da}{H:ak}{x i:AV}{e:bg}{K:bg->Prop}(h:Gm P T H x i=some e)(hk:K e):rJ P T H x i K:=by
 unfold Gm at h;unfold rJ
 split at h
 case h_2=>simp at h
 rename_i i;refine⟨hP _,?_⟩;simp only[Int.ofNat_eq_natCast,hQ]
 split at h
 ·split at h
  ·rename_i y d;simp only[cx,lW,l4]at h;obtain⟨a,rfl⟩:=h;obtain⟨hi,rfl⟩:=hR.1 d;exact⟨hi,DY a,hk⟩
  ·simp at h
 ·split at h
  ·rename_i y d;simp only[cx,lW,l4]at h;obtain⟨a,rfl⟩:=h;obtain⟨hi,rfl⟩:=hR.1 d;exact⟨hi,DY a,hk⟩
  ·simp at h
 ·simp only[cx,lW,ck]at h;obtain⟨⟨a,c⟩,h⟩:=h;refine⟨DY a,by have:=fk c;omega,?_⟩
  split at h
  ·rename_i k;simp only[lW,l4]at h;obtain⟨⟨f,g,j⟩,rfl⟩:=h;simp only[k];exact⟨gU f,gU g,Ps j,hk⟩
  ·simp at h
 ·split at h
  ·rename_i b;simp only[cx,lW,l4]at h;obtain⟨a,rfl⟩:=h;simp only[b];exact⟨by have:=fk a;omega,hk⟩
  ·simp at h
 ·split at h
  ·rename_i b;simp only[cx,lW,l4]at h;obtain⟨a,rfl⟩:=h;simp only[b];exact⟨by have:=fk a;omega,hk⟩
  ·simp at h
 ·split at h
  ·rename_i b;simp only[cx,lW,ck]at h;obtain⟨⟨a,c⟩,h⟩:=h
   split at h
   ·rename_i l;simp only[l4]at h;subst h;simp only[b,l];exact⟨(jZ a).1,by have:=fk c;omega,hk⟩
   ·simp at h
  ·simp at h
 ·simp at h
def HP(P:c9)(T X:da)(H:ak)(s x:AV):Option bg:=
 match dH P T,kT H x with
 |some sz,some xs=>bif jI P X&&((cO P (fR P T)).isSome&&vq P sz xs)then
  match s with
  | .p .aM=>match xs with
   |[]=>some {v:=s,aA:=eX H x}
   |y::r=>bif kX (y::r).length dA then some {v:=.sl H.length 0 sz 0 (y::r).length,aA:=eX H x,bm:=[.arr (gk P T) 0 sz (y::r)]}else none
  | .p (.dD full es)=>bif vq P sz (es.map .p)then match xs with
   |[]=>some {v:=s,aA:=eX H x}
   |y::r=>bif full&&kX (es.length+(y::r).length) dA then
    some {v:=.sl H.length 0 sz 0 (es.length+(y::r).length),aA:=eX H x,bm:=[.arr (gk P T) 0 sz (es.map .p++(y::r))]}else none
   else none
  | .sl b aF an off len=>match H[b]? with
   |some (.arr k c a es)=>bif la aF c&&(la an a&&(la an sz&&kX (off+len) es.length))then
    match xs with
    |[]=>some {v:=s,aA:=(b,.arr k c a es)::eX H x}
    |y::r=>bif kX (es.length+(y::r).length) dA then match k with
     | .frozen=>none
     | .exact=>bif kX (off+len+(y::r).length) es.length then
      some {v:=.sl b aF an off (len+(y::r).length),aA:=(b,.arr .exact c a es)::eX H x,aW:=[(b,.arr .exact aF an (es.take (off+len)++(y::r)++es.drop (off+len+(y::r).length)))]}
      else some {v:=.sl H.length 0 sz 0 (len+(y::r).length),aA:=(b,.arr .exact c a es)::eX H x,bm:=[.arr (gk P T) 0 sz ((es.drop off).take len++(y::r))]}
     | .grow=>bif la off 0 then some {v:=.sl b (aF+1) an 0 (len+(y::r).length),aA:=(b,.arr .grow c a es)::eX H x,aW:=[(b,.arr .grow (aF+1) an (es.take len++(y::r)))]}else none
     | .bytes=>bif la off 0&&la (fR P T) Gl.u8 then some {v:=.sl b (aF+1) an 0 (len+(y::r).length),aA:=(b,.arr .bytes c a es)::eX H x,aW:=[(b,.arr .bytes (aF+1) an (es.take len++(y::r)))]}else none
     else none
    else none
   |_=>none
  |_=>none
  else none
 |_,_=>none
theorem Yh{T X:da}{H:ak}{s x:AV}{e:bg}{K:bg->Prop}(h:HP P T X H s x=some e)(hk:K e):rM P T X H s x K:=by
 unfold HP at h;unfold rM
 split at h
 case h_2=>simp at h
 rename_i sz r n p;simp only[cx,lW,ck]at h;obtain⟨⟨g,j,k⟩,h⟩:=h;simp only[n,p];refine⟨g,j,Aj k,?_⟩
 split at h
 ·split at h
  ·simp only[l4]at h;subst h;simpa using hk
  ·simp only[lW,l4]at h;obtain⟨a,rfl⟩:=h;simp only[jp,cy,if_false];exact⟨fk a,hk⟩
 ·simp only[lW]at h;obtain⟨a,h⟩:=h;refine⟨Aj a,?_⟩
  split at h
  ·simp only[l4]at h;subst h;simpa using hk
  ·simp only[lW,l4]at h;obtain⟨⟨b,c⟩,rfl⟩:=h;simp only[jp,cy,if_false];exact⟨b,fk c,hk⟩
 ·split at h
  case h_2=>simp at h
  rename_i o;simp only[lW]at h;obtain⟨⟨a,b,c,l⟩,h⟩:=h;simp only[o];refine⟨gU a,gU b,gU c,fk l,?_⟩
  split at h
  ·simp only[l4]at h;subst h;simpa using hk
  ·simp only[lW]at h;obtain⟨m,h⟩:=h;simp only[jp,cy,if_false];refine⟨fk m,?_⟩
   split at h
   ·simp at h
   ·split at h
    ·rename_i f;simp only[l4]at h;subst h;simp only[fk f,if_true];exact hk
    ·rename_i f;simp only[l4]at h;subst h;rw[if_neg (fun q=>f (li q))];exact hk
   ·simp only[lW,l4]at h;obtain⟨d,rfl⟩:=h;exact⟨gU d,(fun h=>by cases h),hk⟩
   ·simp only[lW,l4]at h;obtain⟨⟨d,i⟩,rfl⟩:=h;exact⟨gU d,fun _=>gU i,hk⟩
 ·simp at h
end
section
variable{P:c9}{aq:dl->Bool}
def nY(x:Option AV)(d:Nat):Option Nat:=
 match x with
 |none=>some d
 |some (.p (.int _ (.ofNat i)))=>some i
 |_=>none
theorem qx{x:Option AV}{d n:Nat}{K:Nat->Prop}(h:nY x d=some n)(hk:K n):jW x d K:=by
 unfold nY at h;unfold jW
 split at h
 ·simp only[l4]at h;subst h;exact hk
 ·simp only[l4]at h;subst h;exact⟨hP _,hk⟩
 ·simp at h
def HY(P:c9)(T:da)(H:ak)(x:AV)(lo hi:Option AV):Option bg:=
 match x with
  | .p (.str s)=>match nY hi s.length,nY lo 0 with
   |some h,some l=>bif jG P T&&(kX h s.length&&kX l h)then some {v:=.p (.str ((s.take h).drop l))}else none
   |_,_=>none
  | .p .aM=>match nY hi 0,nY lo 0 with
   |some h,some l=>bif (dH P T).isSome&&(kX h 0&&kX l h)then some {v:=x}else none
   |_,_=>none
  | .p (.dD full es)=>match nY hi es.length,nY lo 0,dH P T with
   |some h,some l,some sz=>bif kX h es.length&&(kX l h&&vq P sz (es.map .p))then some {v:=.p (.dD (full&&h==es.length) ((es.take h).drop l))}else none
   |_,_,_=>none
  | .p (.seq es)=>match nY hi es.length,nY lo 0,dH P T with
   |some h,some l,some sz=>bif kX h es.length&&(kX l h&&vq P sz (es.map .p))then some {v:=.p (.seq ((es.take h).drop l))}else none
   |_,_,_=>none
  | .sl b aF an off len=>match H[b]? with
   |some (.arr k c a es)=>match nY hi len,nY lo 0 with
    |some h,some l=>bif la aF c&&(la an a&&(oE (dH P T) an&&(EH k es&&(kX (off+len) es.length&&(kX (off+h) es.length&&kX l h)))))then
     match l with
     |0=>some {v:=.sl b aF an off h,aA:=[(b,.arr k c a es)]}
     |d+1=>bif la (d+1) h then some {v:=.p (.dD false []),aA:=[(b,.arr k c a es)]}else some {v:=.sl b aF an (off+(d+1)) (h-(d+1)),aA:=[(b,.arr k c a es)]}
     else none
    |_,_=>none
   |_=>none
  |_=>none
theorem arV{T:da}{H:ak}{x:AV}{lo hi:Option AV}{e:bg}{K:bg->Prop}(h:HY P T H x lo hi=some e)(hk:K e):rV P T H x lo hi K:=by
 unfold HY at h;unfold rV
 split at h
 ·split at h
  case h_2=>simp at h
  rename_i a b;simp only[cx,lW,ck,l4]at h;obtain⟨⟨c,d,f⟩,rfl⟩:=h;exact⟨c,qx a (qx b ⟨fk d,fk f,hk⟩)⟩
 ·split at h
  case h_2=>simp at h
  rename_i a b;simp only[cx,lW,ck,l4]at h;obtain⟨⟨c,d,f⟩,rfl⟩:=h;exact⟨c,qx a (qx b ⟨fk d,fk f,hk⟩)⟩
 ·split at h
  case h_2=>simp at h
  rename_i a b c;simp only[cx,lW,ck,l4]at h;obtain⟨⟨d,f,g⟩,rfl⟩:=h;refine qx a (qx b ⟨fk d,fk f,?_⟩);simp only[c];exact⟨Aj g,hk⟩
 ·split at h
  case h_2=>simp at h
  rename_i a b c;simp only[cx,lW,ck,l4]at h;obtain⟨⟨d,f,g⟩,rfl⟩:=h;refine qx a (qx b ⟨fk d,fk f,?_⟩);simp only[c];exact⟨Aj g,hk⟩
 ·split at h
  case h_2=>simp at h
  rename_i m
  split at h
  case h_2=>simp at h
  rename_i a b;simp only[cx,lW,ck]at h;obtain⟨⟨c,d,f,g,j,k,l⟩,h⟩:=h;simp only[m];refine⟨gU c,gU d,DY f,Ps g,fk j,qx a (qx b ⟨fk k,fk l,?_⟩)⟩
  split at h
  ·simp only[l4]at h;subst h;simpa using hk
  ·rw[if_neg o_]
   split at h
   ·rename_i i;simp only[l4]at h;subst h;rw[if_pos (gU i)];exact hk
   ·rename_i i;simp only[l4]at h;subst h;rw[if_neg (fun e=>i (by rw[<-e];exact lw _))];exact hk
 ·simp at h
def D4(ok:Bool)(z:PV)(r:Option PV):PV:=
 match r with
 |some v=>bif ok then .aE [v,.bool true]else v
 |none=>bif ok then .aE [z,.bool false]else z
def RE(P:c9)(T:da)(H:ak)(x i:AV)(ok:Bool):Option bg:=
 match nT P T,i with
 |some (a,E),.p key=>match cO P E with
  |some z=>bif iw P a key then match x with
   | .p .gB=>some {v:=.p (D4 ok z none)}
   | .p (.fA es)=>match gw P a es key with
    |some r=>some {v:=.p (D4 ok z r)}
    |none=>none
   | .map b=>match H[b]? with
    |some (.map fz es)=>match gw P a es key with
     |some r=>some {v:=.p (D4 ok z r),aA:=[(b,.map fz es)]}
     |none=>none
    |_=>none
   |_=>none
   else none
  |none=>none
 |_,_=>none
def RA(P:c9)(T:da)(H:ak)(m k x:AV):Option bg:=
 match nT P T,m,k,x with
 |some (a,_),.map b,.p key,.p v=>bif iw P a key then match H[b]? with
  |some (.map false es)=>match pB P a es key with
   |some _=>some {v:=.p (.aE []),aA:=[(b,.map false es)],aW:=[(b,.map false (gR es key v))]}
   |none=>none
  |_=>none
  else none
 |_,_,_,_=>none
def VL(H:ak)(a:AV):Option bg:=
 match a with
 | .ptr b []=>match H[b]? with
  |some (.fC s pos)=>bif kX (pos+1) s.length then
   some {v:=.p (.aE [.bool true,.int .i64 pos,.int .i32 (hM (iL s) pos).1]),aA:=[(b,.fC s pos)],aW:=[(b,.fC s (pos+(hM (iL s) pos).2))]}
   else some {v:=.p (.aE [.bool false]),aA:=[(b,.fC s pos)]}
  |_=>none
 |_=>none
def QD(P:c9)(H:ak)(b:Builtin)(c:Array da)(args:List AV):Option bg:=
 match b,args with
 | .len,[x]=>match lenOf H x with
  |some (n,aA)=>bif mX P (c.getD 0 0) x&&kX 1 c.size then some {v:=.p (.int .i64 n),aA}else none
  |none=>none
 | .append,[s,x]=>bif la c.size 2 then HP P (c.getD 0 0) (c.getD 1 0) H s x else none
 | .min,.p (.int k a)::r=>match pj k false r a with
  |some n=>some {v:=.p (.int k n)}
  |none=>none
 | .max,.p (.int k a)::r=>match pj k true r a with
  |some n=>some {v:=.p (.int k n)}
  |none=>none
 |_,_=>none
def EK(P:c9)(aq:dl->Bool)(o:Oper)(ρ:dg->AV)(H:ak):Option bg:=
 match o.op with
 | .move x| .assign x=>some {v:=ρ x}
 | .pick c a b=>match ρ c with
  | .p (.bool t)=>some {v:=bif t then ρ a else ρ b}
  |_=>none
 | .alloc T=>match cO P T with
  |some z=>bif sE (kindOf P T) (aP z)&&lQ T (aP z)then some {v:=.ptr H.length [],bm:=[.box false (.p z)]}else none
  |none=>none
 | .box T x=>bif sE (kindOf P T) (aa (ρ x))&&lQ T (aa (ρ x))then some {v:=.ptr H.length [],bm:=[.box false (ρ x)]}else none
 | .build T parts=>match kindOf P T,cO P T with
  | .agg u,some z=>match dG P u with
   |some l=>bif sE (aP z) (.agg u)&&AM P l (parts.toList.map fun(i,x)=>(i,ρ x))then some {v:=jm u (jD ((cz z).map .p) (parts.toList.map fun(i,x)=>(i,ρ x)))}else none
   |none=>none
  |_,_=>none
 | .buildSlice T n parts=>match dH P T,cO P (fR P T)with
  |some sz,some z=>bif la (bZ P (aP z)) sz&&(kX (n*sz) 1000000&&AM P (hW n sz) (parts.toList.map fun(i,x)=>(i,ρ x)))then
   some {v:=.sl H.length 0 sz 0 n,bm:=[.arr .exact 0 sz (jD (hW n (.p z)) (parts.toList.map fun(i,x)=>(i,ρ x)))]}else none
  |_,_=>none
 | .load T a=>Jb P T H (ρ a)
 | .store T a x=>HW P T H (ρ a) (ρ x)
 | .binOp op T x y _=>match Iz P op T (uf y) H (ρ x) (ρ y)with
  |some v=>some {v:=.p v,aA:=eX H (ρ x)}
  |none=>none
 | .unOp op _ x=>match op,ρ x with
  | .not,.p (.bool b)=>some {v:=.p (.bool (!b))}
  | .neg,.p (.int k n)=>some {v:=.p (.int k (k.wrap (0-n)))}
  | .xor,.p (.int k n)=>some {v:=.p (.int k (k.wrap (cd k.bits (if k.signed then -1 else k.max)^^^cd k.bits n).toNat))}
  |_,_=>none
 | .convert S D x=>match P.underlying S,P.underlying D,ρ x with
  |some _,some (.int k),.p (.int _ n)=>some {v:=.p (.int k (k.wrap n))}
  |some _,some .string,.p (.str s)=>some {v:=.p (.str s)}
  |_,_,_=>none
 | .extract t i=>match ρ t with
  | .p (.aE vs)=>match vs[i]? with
   |some v=>some {v:=.p v}
   |none=>none
  | .aE vs=>match vs[i]? with
   |some v=>some {v}
   |none=>none
  |_=>none
 | .fieldAddr T a f=>Gq P T (ρ a) f
 | .indexAddr T x i=>Gm P T H (ρ x) (ρ i)
 | .field T x f=>match kindOf P T,P.underlying T,ρ x with
  | .agg u,some (.struct _),.p t=>match(cz t)[f]?,(l6 P u)[f]? with
   |some g,some F=>bif sE (aP t) (.agg u)&&sE (kindOf P F) (aP g)then some {v:=.p g}else none
   |_,_=>none
  |_,_,_=>none
 | .index T x i=>match ρ x,ρ i with
  | .p (.str s),.p (.int _ (.ofNat i))=>match s[i]? with
   |some c=>bif jG P T then some {v:=.p (.int .u8 c)}else none
   |none=>none
  | .p (.st u es),.p (.int _ (.ofNat i))=>match iO P T,(l6 P u)[i]?,es[i]? with
   |some (u',n),some F,some g=>bif la u' u&&(kX (i+1) n&&sE (kindOf P F) (aP g))then some {v:=.p g}else none
   |_,_,_=>none
  |_,_=>none
 | .makeFunc (.func f) e d=>bif aq f then match gZ H (e.toList.map ρ),gZ H (d.toList.map ρ)with
   |some (a,[],[]),some (b,aA,aW)=>some {v:=.p (.func f a b),aA,aW}
   |_,_=>none
  else match fy (e.toList.map ρ),fy (d.toList.map ρ)with
   |some a,some b=>some {v:=.p (.func f a b)}
   |_,_=>some {v:=.func f (e.toList.map ρ) (d.toList.map ρ)}
 | .makeSlice T l c=>match dH P T,cO P (fR P T),ρ l,ρ c with
  |some sz,some z,.p (.int .i64 (.ofNat l)),.p (.int .i64 (.ofNat c))=>bif la (bZ P (aP z)) sz&&(la l c&&kX l dA)then
   some {v:=.sl H.length 0 sz 0 l,bm:=[.arr .exact 0 sz (hW l (.p z))]}else none
  |_,_,_,_=>none
 | .slice T x lo hi none=>HY P T H (ρ x) (lo.map ρ) (hi.map ρ)
 | .makeMap _ none=>some {v:=.map H.length,bm:=[.map false []]}
 | .lookup T x i ok=>RE P T H (ρ x) (ρ i) ok
 | .mapUpdate T m k x| .insert T m k x=>RA P T H (ρ m) (ρ k) (ρ x)
 | .range T x=>match ρ x with
  | .p (.str s)=>bif jG P T then some {v:=.ptr H.length [],bm:=[.fC s 0]}else none
  |_=>none
 | .next it true=>VL H (ρ it)
 | .nilCheck x=>match ρ x with
  | .ptr _ _| .cM _ _ _ _ _| .p (.cW _)=>some {v:=ρ x}
  |_=>none
 | .call c=>match c.callee with
  | .builtin b=>QD P H b c.argTypes (c.args.toList.map ρ)
  |_=>none
 |_=>none
theorem S2{o:Oper}{ρ:dg->AV}{H:ak}{e:bg}{K:bg->Prop}(h:EK P aq o ρ H=some e)(hk:K e):gO P aq o ρ H K:=by
 unfold EK at h;unfold gO;cases U:o.op<;>simp only[U]at h<;>simp only
 case move|assign=>simp only[l4]at h;subst h;exact hk
 case pick c a b=>
  split at h
  ·rename_i t hc;simp only[l4]at h;subst h;simp only[hc];cases t<;>exact hk
  ·simp at h
 case alloc T=>
  split at h
  ·rename_i z hz;simp only[cx,lW,l4,ck]at h;obtain⟨⟨d,j⟩,rfl⟩:=h;simp only[hz];exact⟨(jZ d).1,(jZ d).2,j,hk⟩
  ·simp at h
 case box T x=>
  simp only[cx,lW,l4,ck]at h;obtain⟨⟨d,j⟩,rfl⟩:=h;exact⟨(jZ d).1,(jZ d).2,j,hk⟩
 case build T parts=>
  split at h
  ·rename_i u z V hz
   split at h
   ·rename_i l B;simp only[cx,lW,l4,ck]at h;obtain⟨⟨d,j⟩,rfl⟩:=h;simp only[V,hz,B];exact⟨(jZ d).1,GA j,hk⟩
   ·simp at h
  ·simp at h
 case buildSlice T n parts=>
  split at h
  ·rename_i sz z O hz;simp only[cx,lW,l4,ck]at h;obtain⟨⟨d,j,q⟩,rfl⟩:=h;simp only[O,hz];exact⟨gU d,fk j,GA q,hk⟩
  ·simp at h
 case load T a=>exact avQ h hk
 case store T a x=>exact arO h hk
 case binOp op T x y X=>
  split at h
  ·rename_i v C;simp only[l4]at h;subst h;exact aAE (K:=fun v=>K {v:=.p v,aA:=eX H (ρ x)}) C hk
  ·simp at h
 case unOp op T x=>
  split at h
  all_goals first
   |(rename_i hx;simp only[l4]at h;subst h;simp only[hx];exact hk)
   |simp at h
 case convert S D x=>
  split at h
  ·rename_i d j q;simp only[l4]at h;subst h;simp only[d,j,q];exact hk
  ·rename_i d j q;simp only[l4]at h;subst h;simp only[d,j,q];exact hk
  ·simp at h
 case extract t i=>
  split at h
  ·rename_i N
   split at h
   ·rename_i C;simp only[l4]at h;subst h;simp only[N,C];exact hk
   ·simp at h
  ·rename_i N
   split at h
   ·rename_i C;simp only[l4]at h;subst h;simp only[N,C];exact hk
   ·simp at h
  ·simp at h
 case fieldAddr T a f=>exact Zu h hk
 case indexAddr T x i=>exact ZE h hk
 case field T x f=>
  split at h
  ·rename_i d j q
   split at h
   ·rename_i s w;simp only[cx,lW,l4,ck]at h;obtain⟨⟨G,I⟩,rfl⟩:=h;simp only[d,j,q,s,w];exact⟨(jZ G).1,(jZ I).1,hk⟩
   ·simp at h
  ·simp at h
 case index T x i=>
  split at h
  ·rename_i d j
   split at h
   ·rename_i c hc;simp only[cx,lW,l4]at h;obtain⟨q,rfl⟩:=h;obtain⟨hi,rfl⟩:=hR.1 hc;simp only[d,j];exact⟨q,hP _,hi,hk⟩
   ·simp at h
  ·rename_i u aa ac i d j
   split at h
   ·rename_i u' n F g q s w;simp only[cx,lW,l4,ck]at h;obtain⟨⟨g1,g2,g3⟩,rfl⟩:=h;have e:(Int.ofNat i).toNat=i:=rfl;simp only[d,j,e,q,s,w];exact⟨gU g1,hP _,fk g2,(jZ g3).1,hk⟩
   ·simp at h
  ·simp at h
 case makeFunc fn ab Z=>
  cases fn<;>simp only at h<;>try (simp at h;done)
  rename_i f;simp only;simp only[cx]at h
  split at h
  ·rename_i hf;rw[if_pos hf]
   split at h
   ·rename_i d j;simp only[l4]at h;subst h;simp only[d,j];exact hk
   ·simp at h
  ·rename_i hf;rw[if_neg hf]
   split at h
   ·rename_i d j;simp only[l4]at h;subst h;simp only[d,j];exact hk
   ·rename_i R;simp only[l4]at h;subst h
    split
    ·rename_i d j;exact(R _ _ d j).elim
    ·exact hk
 case makeSlice T l c=>
  split at h
  ·rename_i d j q s;simp only[cx,lW,l4,ck]at h;obtain⟨⟨w,G,I⟩,rfl⟩:=h;have e:=gU G;simp only[d,j,q,s];refine⟨gU w,hP _,by rw[e],?_,hk⟩;have:=fk I;show((_:Nat):Int)<=_
   exact_mod_cast this
  ·simp at h
 case slice T x lo hi W=>
  cases W with
  |none=>exact arV h hk
  |some m=>simp at h
 case makeMap T r=>
  cases r<;>simp only at h
  ·simp only[l4]at h;subst h;exact hk
  ·simp at h
 case lookup T x i ok=>
  unfold RE at h
  split at h
  case h_2=>simp at h
  rename_i d j
  split at h
  case h_2=>simp at h
  rename_i z hz;simp only[cx,lW]at h;obtain⟨q,h⟩:=h;simp only[d,j,hz];refine⟨q,?_⟩
  have E:∀r:Option PV,D4 ok z r=match r with
    |some v=>if ok=true then .aE [v,.bool true]else v
    |none=>if ok=true then .aE [z,.bool false]else z:=by
   intro r;cases r<;>cases ok<;>rfl
  split at h
  ·rename_i hx;simp only[l4]at h;subst h;simp only[hx];rw[E]at hk;exact hk
  ·rename_i hx
   split at h
   ·rename_i r M;simp only[l4]at h;subst h;rw[E]at hk;simp only[hx,M];cases r<;>exact hk
   ·simp at h
  ·rename_i hx
   split at h
   ·rename_i A
    split at h
    ·rename_i r M;simp only[l4]at h;subst h;rw[E]at hk;simp only[hx,A,M];cases r<;>exact hk
    ·simp at h
   ·simp at h
  ·simp at h
 case mapUpdate T m k x|insert T m k x=>
  unfold RA at h
  split at h
  case h_2=>simp at h
  rename_i d j q s;simp only[cx,lW]at h;obtain⟨w,h⟩:=h;simp only[d,j,q,s];refine⟨w,?_⟩
  split at h
  case h_2=>simp at h
  rename_i A
  split at h
  ·rename_i B;simp only[l4]at h;subst h;simp only[A,B];exact hk
  ·simp at h
 case range T x=>
  split at h
  ·rename_i hx;simp only[cx,lW,l4]at h;obtain⟨d,rfl⟩:=h;simp only[hx];exact⟨d,hk⟩
  ·simp at h
 case next it isStr=>
  cases isStr<;>simp only at h
  ·simp at h
  unfold VL at h
  split at h
  ·rename_i hx
   split at h
   ·rename_i A;simp only[hx,A];simp only[cx]at h
    split at h
    ·rename_i L;simp only[l4]at h;subst h;rw[if_pos (by have:=fk L;omega)];exact hk
    ·rename_i L;simp only[l4]at h;subst h;rw[if_neg (fun Q=>L (li (Nat.succ_le_of_lt Q)))];exact hk
   ·simp at h
  ·simp at h
 case nilCheck x=>
  split at h
  all_goals first
   |(rename_i hx;simp only[l4]at h;subst h;simp only[hx]at hk⊢;exact hk)
   |simp at h
 case call c=>
  split at h
  case h_2=>simp at h
  rename_i b hc;simp only[hc];generalize c.args.toList.map ρ=args at*;generalize c.argTypes=Y at*;unfold QD at h
  split at h
  ·split at h
   ·rename_i B;simp only[cx,lW,l4,ck]at h;obtain⟨⟨d,j⟩,rfl⟩:=h;simp only[B];exact⟨d,fk j,hk⟩
   ·simp at h
  ·simp only[cx,lW]at h;exact⟨gU h.1,Yh h.2 hk⟩
  ·split at h
   ·rename_i J;simp only[l4]at h;subst h;simp only[J];exact hk
   ·simp at h
  ·split at h
   ·rename_i J;simp only[l4]at h;subst h;simp only[J];exact hk
   ·simp at h
  ·simp at h
 all_goals simp at h
end
end Go.ae
namespace Go.ae
variable[Gl]
section
variable(σ:Nat->Nat)
mutual
def df:AV->AV
 | .p v=>.p v
 | .ptr b path=>.ptr (σ b) path
 | .cM b aF an i path=>.cM (σ b) aF an i path
 | .sl b aF an off len=>.sl (σ b) aF an off len
 | .map b=>.map (σ b)
 | .func f c a=>.func f (dw c) (dw a)
 | .st u fs=>.st u (dw fs)
 | .aE vs=>.aE (dw vs)
def dw:List AV->List AV
 |[]=>[]
 |v::vs=>df v::dw vs
end
def xT:Env->Env
 |[]=>[]
 |(x,v)::r=>(x,df σ v)::xT r
def dS:Obj->Obj
 | .box fz t=>.box fz (df σ t)
 | .arr k aF an es=>.arr k aF an (dw σ es)
 | .loop L=>.loop {L with env:=xT σ L.env}
 |o=>o
end
section
variable{σ:Nat->Nat}
theorem Hf:∀(e:Env)(x:Nat),aV (xT σ e) x=df σ (aV e x)
 |[],_=>rfl
 |(y,v)::r,x=>by
  simp only[xT,aV]
  split
  ·rfl
  ·exact Hf r x
theorem wT:∀l:List AV,(dw σ l).length=l.length
 |[]=>rfl
 |_::r=>by simp[dw,wT r]
theorem avh{l:List AV}:dw σ l=[]↔l=[]:=by cases l<;>simp[dw]
theorem rW{k:AK}{a:List AV}:eU k (dw σ a)↔eU k a:=by simp[eU,avh]
theorem R0{v:AV}:(df σ v).vS↔v.vS:=by cases v<;>simp[df,AV.vS]
theorem au5{v:AV}:aa (df σ v)=aa v:=by cases v<;>rfl
theorem Ra:∀{l:List AV},(∀e∈dw σ l,e.vS)↔∀e∈l,e.vS
 |[]=>by simp[dw]
 |v::r=>by simp[dw,R0,Ra (l:=r)]
theorem uV{o:Obj}:(dS σ o).live↔o.live:=by cases o<;>simp[dS,Obj.live,rW]
theorem R8{o:Obj}{v:Nat}:(dS σ o).has v↔o.has v:=by cases o<;>simp[dS,Obj.has]
theorem av1{o:Obj}:dS σ o=.hole↔o=.hole:=by cases o<;>simp[dS]
mutual
theorem GU{S:Nat×Nat->Prop}:∀(v:AV),aI S (df σ v)↔aI (fun x=>S (σ x.1,x.2)) v
 | .p _=>by simp[df,aI]
 | .ptr _ _| .cM _ _ _ _ _| .sl _ _ _ _ _| .map _=>by simp[df,aI]
 | .func _ b a=>by simp only[df,aI];rw[xj b,xj a]
 | .st _ fs=>by simp only[df,aI];exact xj fs
 | .aE vs=>by simp only[df,aI];exact xj vs
theorem xj{S:Nat×Nat->Prop}:∀(l:List AV),bk S (dw σ l)↔bk (fun x=>S (σ x.1,x.2)) l
 |[]=>by simp[dw,bk]
 |v::r=>by simp only[dw,bk];rw[GU v,xj r]
end
theorem asJ{S:Nat×Nat->Prop}{o:Obj}:(dS σ o).refs S↔o.refs (fun x=>S (σ x.1,x.2)):=by
 cases o<;>simp only[dS,Obj.refs,GU,xj,Hf]
structure fH(σ:Nat->Nat)(ft:Bd)(H0:ak)(β:Bd)(H:ak):Prop where
 obj:∀(b:Nat)(o:Obj),H0[b]?=some o->H[σ b]?=some (dS σ o)
 az:∀b,b<H0.length->β.az (σ b)=ft.az b/\β.cap (σ b)=ft.cap b
section
variable{P:c9}{w:dp}{ad:Nat->Prop}{ft β:Bd}{H0 H:ak}
theorem fH.Bs(h:fH σ ft H0 β H){k b:Nat}(a:b<H0.length):oJ H k (σ b)↔oJ H0 k b:=by
 have c:=h.obj b _ (hS a);have d:=hS a;unfold oJ;rw[c,d];cases H0[b]<;>simp[dS,Obj.kd]
theorem fH.loop(h:fH σ ft H0 β H){b:Nat}(a:b<H0.length):jE H (σ b)↔jE H0 b:=by
 rw[<-wN,<-wN,h.Bs a]
theorem fH.arr(h:fH σ ft H0 β H){b aF an:Nat}{k:AK}{es:List AV}(a:b<H0.length):jc H (σ b) aF an k es↔∃kn,jc H0 b aF an k kn/\es=dw σ kn:=by
 have c:=h.obj b _ (hS a);have d:=hS a;unfold jc;rw[c,d];cases H0[b]<;>simp[dS];constructor
 ·rintro⟨rfl,rfl,rfl,rfl⟩;exact⟨_,⟨rfl,rfl,rfl,rfl⟩,rfl⟩
 ·rintro⟨_,⟨rfl,rfl,rfl,rfl⟩,rfl⟩;exact⟨rfl,rfl,rfl,rfl⟩
theorem fH.IV(h:fH σ ft H0 β H){x:Nat×Nat}(a:x.1<H0.length):aQ H (σ x.1,x.2)↔aQ H0 x:=by
 have b:=h.obj x.1 _ (hS a);have c:=hS a;unfold aQ;rw[b,c];simp[R8]
def Small(n:Nat):Nat×Nat->Prop:=fun x=>x.1<n
theorem fH.uj(h:fH σ ft H0 β H):∀{a:AV}{v:dd},aI (Small H0.length) a->(cG P β H (df σ a) v↔cG P ft H0 a v)
 | .p _,_,_| .func _ _ _,_,_| .st _ _,_,_| .aE _,_,_=>by simp[df,cG]
 | .ptr b path,v,c=>by
  simp only[aI,Small]at c;simp only[df,cG,h.Bs c,(h.az b c).1]
 | .cM b aF an i path,v,c=>by
  simp only[aI,Small]at c;simp only[df,cG,h.arr c,(h.az b c).1];constructor
  ·rintro⟨az,off,o,f,g,j⟩;exact⟨az,off,o,f,g,fun k d e hn=>j k _ ⟨d,e,rfl⟩ (by rwa [rW])⟩
  ·rintro⟨az,off,o,f,g,j⟩;refine⟨az,off,o,f,g,?_⟩;rintro k _ ⟨d,e,rfl⟩ hn;exact j k d e (by rwa [rW]at hn)
 | .sl b aF an off len,v,c=>by
  simp only[aI,Small]at c;simp only[df,cG,h.arr c,(h.az b c).1,(h.az b c).2];constructor
  ·intro l k d e;have:=l k _ ⟨d,e,rfl⟩;simpa only[wT,rW]using this
  ·rintro l k _ ⟨d,e,rfl⟩;have:=l k d e;simpa only[wT,rW]using this
 | .map b,v,c=>by
  simp only[aI,Small]at c;simp only[df,cG,h.Bs c,h.loop c,(h.az b c).1]
mutual
theorem fH.So(h:fH σ ft H0 β H):∀(a:AV)(cs:List dd),aI (Small H0.length) a->(bG P w ad β H (df σ a) cs↔bG P w ad ft H0 a cs)
 | .p _,_,_=>by simp[df,bG]
 | .aE _,_,_=>by simp[df,bG]
 | .st u fs,cs,d=>by
  simp only[aI]at d;simp only[df,bG];exact exists_congr fun l=>exists_congr fun e=>and_congr_right fun _=>and_congr_left fun _=>fH.D7 h l fs e d
 | .func f k j,cs,d=>by
  simp only[aI]at d;simp only[df,bG];exact exists_congr fun l=>exists_congr fun e=>and_congr (fH.vK h k l d.1) (and_congr_left fun _=>fH.vK h j e d.2)
 | .ptr b path,cs,d=>by
  have:=fun v=>h.uj (P:=P) (a:=.ptr b path) (v:=v) d;simp only[df,bG,cg]at this⊢;simp only[this]
 | .cM b aF an i path,cs,d=>by
  have:=fun v=>h.uj (P:=P) (a:=.cM b aF an i path) (v:=v) d;simp only[df,bG,cg]at this⊢;simp only[this]
 | .sl b aF an off len,cs,d=>by
  have:=fun v=>h.uj (P:=P) (a:=.sl b aF an off len) (v:=v) d;simp only[df,bG,cg]at this⊢;simp only[this]
 | .map b,cs,d=>by
  have:=fun v=>h.uj (P:=P) (a:=.map b) (v:=v) d;simp only[df,bG,cg]at this⊢;simp only[this]
theorem fH.D7(h:fH σ ft H0 β H):∀(g:List Nat)(l:List AV)(e:List (List dd)),bk (Small H0.length) l->(b9 P w ad β H g (dw σ l) e↔b9 P w ad ft H0 g l e)
 |[],[],e,_=>by simp[dw,b9]
 |[],_::_,e,_=>by simp[dw,b9]
 |_::_,[],e,_=>by simp[dw,b9]
 |n::g,v::vs,e,d=>by
  simp only[bk]at d;simp only[dw,b9];exact exists_congr fun c=>exists_congr fun cs=>and_congr_right fun _=>and_congr (fH.So h v c d.1) (and_congr_right fun _=>fH.D7 h g vs cs d.2)
theorem fH.Ip(h:fH σ ft H0 β H):∀(a:AV)(v:dd),aI (Small H0.length) a->(aD P w ad β H (df σ a) v↔aD P w ad ft H0 a v)
 | .p _,_,_=>by simp[df,aD]
 | .aE vs,_,d=>by
  simp only[aI]at d;simp only[df,aD];exact exists_congr fun l=>and_congr_left fun _=>fH.vK h vs l d
 | .st u fs,cs,d=>by
  simp only[aI]at d;simp only[df,aD];exact exists_congr fun l=>exists_congr fun e=>and_congr_right fun _=>and_congr_left fun _=>fH.D7 h l fs e d
 | .func f k j,cs,d=>by
  simp only[aI]at d;simp only[df,aD];exact exists_congr fun l=>exists_congr fun e=>and_congr (fH.vK h k l d.1) (and_congr_left fun _=>fH.vK h j e d.2)
 | .ptr b path,v,d=>by
  have:=h.uj (P:=P) (a:=.ptr b path) (v:=v) d;simp only[df,aD,cg]at this⊢;simp only[this]
 | .cM b aF an i path,v,d=>by
  have:=h.uj (P:=P) (a:=.cM b aF an i path) (v:=v) d;simp only[df,aD,cg]at this⊢;simp only[this]
 | .sl b aF an off len,v,d=>by
  have:=h.uj (P:=P) (a:=.sl b aF an off len) (v:=v) d;simp only[df,aD,cg]at this⊢;simp only[this]
 | .map b,v,d=>by
  have:=h.uj (P:=P) (a:=.map b) (v:=v) d;simp only[df,aD,cg]at this⊢;simp only[this]
theorem fH.vK(h:fH σ ft H0 β H):∀(l:List AV)(vs:List dd),bk (Small H0.length) l->(bX P w ad β H (dw σ l) vs↔bX P w ad ft H0 l vs)
 |[],vs,_=>by simp[dw,bX]
 |a::l,vs,d=>by
  simp only[bk]at d;simp only[dw,bX];exact exists_congr fun y=>exists_congr fun m=>and_congr_right fun _=>and_congr (fH.Ip h a y d.1) (fH.vK h l m d.2)
end
theorem fH.VT(h:fH σ ft H0 β H){ai Prot0:Nat->Prop}{b:Nat}{o:Obj}(e:H0[b]?=some o)(c:o.refs (Small H0.length))(a:o.live->∀fz,dV ad ft Prot0 fz b↔dV ad β ai fz (σ b)):
 fP P w ad β H ai (σ b) (dS σ o)↔fP P w ad ft H0 Prot0 b o:=by
 have f:b<H0.length:=(hR.1 e).1;obtain⟨k1,k2⟩:=h.az b f;cases o with
 |hole=>simp[dS,fP]
 |dead=>simp[dS,fP]
 |box fz t=>
  simp only[dS,fP,k1,<-a trivial,h.So t _ c,R0,au5]
 |arr k aF an es=>
  simp only[dS,fP,k1,k2,rW,wT,Ra]
  by_cases hn:eU k es
  ·simp[hn]
  ·simp only[hn,false_or,<-a hn,h.D7 _ es _ c]
 |map fz es=>
  simp only[dS,fP,k1,<-a trivial]
 |fC s pos=>
  simp only[dS,fP,k1,<-a trivial]
 |loop L=>
  simp only[dS,fP,k1,<-a trivial,Hf];exact exists_congr fun t=>exists_congr fun d=>exists_congr fun fn=>and_congr_right fun _=>and_congr_right fun _=>and_congr_left fun _=>forall_congr' fun x=>h.Ip _ _ (c x)
end
end
end Go.ae
namespace Go.ae
variable[Gl]
def sig(bs:List Nat)(a i:Nat):Nat:=match bs[i]? with
 |some b=>b
 |none=>a+(i-bs.length)
theorem xC{bs:List Nat}{a i:Nat}(h:i<bs.length):sig bs a i=bs[i]:=by simp[sig,h]
theorem xD{bs:List Nat}{a i:Nat}(h:bs.length<=i):sig bs a i=a+(i-bs.length):=by simp[sig,h]
theorem aQk{bs:List Nat}{a:Nat}(e:bs.Nodup)(d:∀b∈bs,b<a){i j:Nat}(h:sig bs a i=sig bs a j):i=j:=by
 by_cases hi:i<bs.length<;>by_cases c:j<bs.length
 ·rw[xC hi,xC c]at h;exact(List.getElem_inj e).1 h
 ·rw[xC hi,xD o_]at h;have:=d _ (kC hi);omega
 ·rw[xD o_,xC c]at h;have:=d _ (kC c);omega
 ·rw[xD o_,xD o_]at h;omega
theorem u7:∀{l:List (Nat×Obj)}{H:ak}{x:Nat},(∀p∈l,p.1≠x)->(bu H l)[x]?=H[x]?
 |[],_,_,_=>rfl
 |(b,o)::r,H,x,h=>by
  simp only[bu];rw[u7 (fun p a=>h p (by simp[a])),h5 (h (b,o) s_)]
theorem xP:∀{l:List (Nat×Obj)}{H:ak},(l.map (·.1)).Nodup->∀p∈l,p.1<H.length->(bu H l)[p.1]?=some p.2
 |[],_,_,_,h,_=>by simp at h
 |(b,o)::r,H,hn,p,a,c=>by
  simp only[hX,j2]at hn;simp only[bu];rcases hV.1 a with rfl|a
  ·rw[u7 (fun q hq d=>hn.1 (j6.2 ⟨q,hq,d⟩)),hT c]
  ·exact xP hn.2 p a (by simpa using c)
theorem GC(a:Nat):∀(l:List Obj),(newAt a l).map (·.1)=kO a l.length
 |[]=>rfl
 |o::r=>by simp[newAt,GC (a+1) r,kv]
theorem Pv:∀(l:List Obj)(a j:Nat)(h:j<l.length),(a+j,l[j])∈newAt a l
 |[],_,_,h=>by simp at h
 |o::r,a,0,h=>by simp[newAt]
 |o::r,a,j+1,h=>by
  have:=Pv r (a+1) j (by simpa using h);simp only[newAt,List.getElem_cons_succ,hV];right;have e:a+(j+1)=a+1+j:=o_
  rw[e];exact this
section
variable{P:c9}{w w':dp}{ad aJ ai:Nat->Prop}{β aR:Bd}{H H':ak}
theorem fP.mut{b:Nat}{o:Obj}(h:fP P w ad β H ai b o)(c:o.live)(hn:¬ad (β.az b)):¬ai (β.az b):=by
 obtain⟨fz,a,_⟩:=h.IU c;cases fz with
 |true=>exact(hn a).elim
 |false=>exact a.2
theorem fP.carry(hi:∀k,ad k->aJ k)(hs:∀k,ad k->w'.heap[k]?=w.heap[k]?)(aY:cZ β H aR H'){b:Nat}{o:Obj}(f:o.refs (aQ H))
 (c:o.live->w'.heap[β.az b]?=w.heap[β.az b]?/\aR.az b=β.az b/\aR.cap b=β.cap b)(held:o.live->∀fz,dV ad β ai fz b->dV aJ aR ai fz b)(h:fP P w ad β H ai b o):fP P w' aJ aR H' ai b o:=by
 refine h.move hi hs aY f (fun a=>(c a).2.2) fun fz a hf=>⟨?_,held a fz hf⟩
 obtain⟨d,e,_⟩:=c a;rw[e,d]
def dW(bs:List Nat)(a:Nat)(H0 cj:ak)(b:AV):bg:=
 {v:=df (sig bs a) b,aA:=bs.zip (H0.map (dS (sig bs a))),aW:=bs.zip ((cj.take H0.length).map (dS (sig bs a))),bm:=(cj.drop H0.length).map (dS (sig bs a))}
open Classical in
theorem Pa{H0 cj:ak}{ib:List AV}{v0:AV}(bs:List Nat)(base:Nat)(hlen:bs.length=H0.length)(hnd:bs.Nodup)(hlt:∀b∈bs,b<base)
 (hl:H0.length<=cj.length)(ha:bk (aQ H0) ib)(ho:∀(b:Nat)(o:Obj),H0[b]?=some o->o.refs (aQ H0))
 {H:ak}{w:dp}{ad ai:Nat->Prop}{β:Bd}{cargs:List dd}(hr:cK P w ad β H ai)(hargs:bX P w ad β H (dw (sig bs base) ib) cargs)
 (aA:∀p∈(dW bs base H0 cj v0).aA,H[p.1]?=some p.2)(bm:∀i,i<(dW bs base H0 cj v0).bm.length->H[base+i]?=some .hole):
 ∃(ft:Bd)(Prot0:Nat->Prop),(∀b,ft.az b=β.az (sig bs base b))/\cK P w ad ft H0 Prot0/\bX P w ad ft H0 ib cargs/\(∀b,b<H0.length->(jE H (sig bs base b)↔jE H0 b))/\
  ∀(cv:dd)(w':dp)(β0':Bd)(aJ:Nat->Prop),cF P Prot0 ad w ft H0 aJ w' β0' cj->aD P w' aJ β0' cj v0 cv->aI (aQ cj) v0->
   ∃aR,cF P ai ad w β H aJ w' aR (bu H ((dW bs base H0 cj v0).aW++newAt base (dW bs base H0 cj v0).bm))/\
    aD P w' aJ aR (bu H ((dW bs base H0 cj v0).aW++newAt base (dW bs base H0 cj v0).bm)) (dW bs base H0 cj v0).v cv/\
    aI (aQ (bu H ((dW bs base H0 cj v0).aW++newAt base (dW bs base H0 cj v0).bm))) (dW bs base H0 cj v0).v:=by
 obtain⟨σ,hσ⟩:∃σ,σ=sig bs base:=⟨_,rfl⟩
 have hinj:∀{i j},σ i=σ j->i=j:=fun{i j} h=>aQk hnd hlt (by rw[hσ]at h;exact h);have hold:∀{i}(hi:i<H0.length),σ i=bs[i]' o_:=fun hi=>by rw[hσ];exact xC _
 have hnw:∀{i},H0.length<=i->σ i=base+(i-H0.length):=fun hi=>by rw[hσ,xD o_,hlen]
 have hget:∀(b:Nat)(o:Obj),H0[b]?=some o->H[σ b]?=some (dS σ o):=by
  intro b o hb;obtain⟨hbl,rfl⟩:=hR.1 hb;have:=aA (bs[b]' o_,dS (sig bs base) H0[b]) (by
   simp only[dW];rw[ik];exact⟨b,by simp;omega,s_⟩)
  rw[hold hbl,hσ];exact this
 have hnewH:∀i,H0.length<=i->i<cj.length->H[σ i]?=some .hole:=by
  intro i h1 h2;rw[hnw h1];exact bm (i-H0.length) (by simp[dW];omega)
 obtain⟨H2,hH2⟩:∃H2,H2=bu H ((dW bs base H0 cj v0).aW++newAt base (dW bs base H0 cj v0).bm):=⟨_,rfl⟩
 have hkeys:∀p∈(dW bs base H0 cj v0).aW++newAt base (dW bs base H0 cj v0).bm,∃i,i<cj.length/\p.1=σ i:=by
  intro p hp;rcases j3.1 hp with hp|hp
  ·simp only[dW]at hp;have hm:=(j1 hp).1;obtain⟨i,hi,he⟩:=ik.1 hm;exact⟨i,o_,by rw[hold o_];exact he.symm⟩
  ·have hm:p.1∈(newAt base (dW bs base H0 cj v0).bm).map (·.1):=i6 hp
   rw[GC,ko]at hm;simp only[dW,j4,kz]at hm;exact⟨H0.length+(p.1-base),o_,by rw[hnw o_];omega⟩
 have hndk:(((dW bs base H0 cj v0).aW++newAt base (dW bs base H0 cj v0).bm).map (·.1)).Nodup:=by
  rw[h9,GC];have e:(dW bs base H0 cj v0).aW.map (·.1)=bs:=by
   simp only[dW];rw[List.map_fst_zip];simp;omega
  rw[e,List.nodup_append];refine⟨hnd,List.nodup_range',fun a h1 b h2 he=>?_⟩;subst he;have:=hlt _ h1;rw[ko]at h2;omega
 have hA:∀(i:Nat)(o:Obj),cj[i]?=some o->H2[σ i]?=some (dS σ o):=by
  intro i o hi;obtain⟨hil,rfl⟩:=hR.1 hi
  by_cases hi0:i<H0.length
  ·have hm:(bs[i]' o_,dS (sig bs base) cj[i])∈(dW bs base H0 cj v0).aW++newAt base (dW bs base H0 cj v0).bm:=by
    refine List.mem_append_left _ ?_;simp only[dW];rw[ik];exact⟨i,by simp;omega,s_⟩
   have:=xP (H:=H) hndk _ hm (by
    have:=hget i _ (hS hi0);rw[hold hi0]at this;exact(hR.1 this).1)
   rw[hH2,hold hi0,this,hσ]
  ·have hm:(base+(i-H0.length),dS (sig bs base) cj[i])∈(dW bs base H0 cj v0).aW++newAt base (dW bs base H0 cj v0).bm:=by
    refine j8 _ ?_;have:=Pv (dW bs base H0 cj v0).bm base (i-H0.length) (by simp[dW];omega);have e:(dW bs base H0 cj v0).bm[i-H0.length]'(by simp[dW];omega)=dS (sig bs base) cj[i]:=by
     simp only[dW,List.getElem_map,List.getElem_drop];congr 2;omega
    rw[e]at this;exact this
   have:=xP (H:=H) hndk _ hm (by
    have:=hnewH i o_ hil;rw[hnw o_]at this;exact(hR.1 this).1)
   rw[hH2,hnw o_,this,hσ]
 have hB:∀x,(∀i,i<cj.length->σ i≠x)->H2[x]?=H[x]?:=by
  intro x hx;rw[hH2];refine u7 fun p hp=>?_;obtain⟨i,h1,h2⟩:=hkeys p hp;rw[h2];exact hx i h1
 let ft:Bd:=⟨fun b=>β.az (σ b),fun b=>β.cap (σ b)⟩
 let Prot0:Nat->Prop:=fun k=>ai k\/∃x o,H[x]?=some o/\o.live/\(∀i,i<H0.length->σ i≠x)/\β.az x=k
 have hemb:fH σ ft H0 β H:=⟨hget,fun b _=>⟨rfl,rfl⟩⟩
 have small:∀x:Nat×Nat,aQ H0 x->Small H0.length x:=fun x⟨o,ho,_⟩=>(hR.1 ho).1;have held0:∀{b:Nat}{o:Obj},H0[b]?=some o->o.live->∀fz,dV ad ft Prot0 fz b↔dV ad β ai fz (σ b):=by
  intro b o hb hlv fz;cases fz with
  |true=>simp[dV,ft]
  |false=>
   simp only[dV,cy,if_false];refine and_congr_right fun hni=>⟨fun h hp=>h (.inl hp),fun h hp=>?_⟩
   rcases hp with hp|⟨x,o',h1,h2,h3,h4⟩
   ·exact h hp
   ·exact h3 b (hR.1 hb).1 (hr.inj _ _ _ _ (hget b o hb) h1 (uV.2 hlv) h2 hni h4.symm)
 have hr0:cK P w ad ft H0 Prot0:=by
  refine⟨fun b o hb=>?_,fun b b' o o' h1 h2 l1 l2 hni he=>?_,ho,hr.cq,fun k hk=>?_,hr.lT⟩
  ·exact(hemb.VT hb (Obj.sr small (ho b o hb)) (held0 hb)).1 (hr.dQ _ _ (hget b o hb))
  ·exact hinj (hr.inj _ _ _ _ (hget b o h1) (hget b' o' h2) (uV.2 l1) (uV.2 l2) hni he)
  ·rcases hk with hk|⟨x,o,h1,h2,_,rfl⟩
   ·exact hr.fN k hk
   ·exact hr.rZ h1 h2
 have hargs0:bX P w ad ft H0 ib cargs:=by
  rw[<-hσ]at hargs;exact(hemb.vK _ _ (bk.mono small _ ha)).1 hargs
 refine⟨ft,Prot0,fun b=>by rw[<-hσ],hr0,hargs0,fun b hb=>by rw[<-hσ];exact hemb.loop hb,fun cv w' β0' aJ hp hv hvr=>?_⟩
 let aR:Bd:=⟨fun x=>if h:∃i,i<cj.length/\σ i=x then β0'.az h.choose else β.az x,fun x=>if h:∃i,i<cj.length/\σ i=x then β0'.cap h.choose else β.cap x⟩
 have hβ:∀i,i<cj.length->aR.az (σ i)=β0'.az i/\aR.cap (σ i)=β0'.cap i:=by
  intro i hi;have hex:∃j,j<cj.length/\σ j=σ i:=⟨i,hi,rfl⟩
  have hc:hex.choose=i:=hinj hex.choose_spec.2;simp only[aR,dif_pos hex,hc,and_self]
 have hβn:∀x,(∀i,i<cj.length->σ i≠x)->aR.az x=β.az x/\aR.cap x=β.cap x:=by
  intro x hx;have hnex:¬∃i,i<cj.length/\σ i=x:=fun⟨i,h1,h2⟩=>hx i h1 h2;simp only[aR,dif_neg hnex,and_self]
 have hemb':fH σ β0' cj aR H2:=⟨hA,fun b hb=>hβ b hb⟩
 have small':∀x:Nat×Nat,aQ cj x->Small cj.length x:=fun x⟨o,ho,_⟩=>(hR.1 ho).1;have split:∀x,(∃i,i<cj.length/\σ i=x)\/∀i,i<cj.length->σ i≠x:=by
  intro x
  by_cases hx:∃i,i<cj.length/\σ i=x
  ·exact .inl hx
  ·exact .inr fun i h1 h2=>hx ⟨i,h1,h2⟩
 have inOld:∀{i v},i<cj.length->aQ H (σ i,v)->aQ H0 (i,v)/\i<H0.length:=by
  intro i v hi ⟨o,h1,h2⟩
  by_cases hi0:i<H0.length
  ·refine⟨?_,hi0⟩;have:=hget i _ (hS hi0);simp only at h1;rw[this]at h1;cases h1;exact⟨_,hS hi0,R8.1 h2⟩
  ·have:=hnewH i o_ hi;simp only at h1;rw[this]at h1;cases h1;exact h2.elim
 have jg:cZ β H aR H2:=by
  refine⟨?_,?_⟩
  ·intro k b hb hlv;rcases split b with⟨i,hi,rfl⟩|hx
   ·obtain⟨k1,k2⟩:=inOld hi hb;obtain⟨g1,g2⟩:=hp.step.obj k i k1 ((hemb'.Bs hi).1 hlv);exact⟨(hemb.Bs k2).2 g1,(hβ i hi).1.trans g2⟩
   ·unfold oJ at hlv⊢;rw[hB b hx]at hlv;exact⟨hlv,(hβn b hx).1⟩
  ·intro b aF an k es hb hlv;rcases split b with⟨i,hi,rfl⟩|hx
   ·obtain⟨k1,k2⟩:=inOld hi hb;obtain⟨kn,g0,rfl⟩:=(hemb'.arr hi).1 hlv;obtain⟨k0,es1,g1,g2,g3,g4⟩:=hp.step.arr i aF an k kn k1 g0;refine⟨k0,dw σ es1,(hemb.arr k2).2 ⟨_,g1,rfl⟩,by rw[wT,wT];exact g2,by rw[rW,rW];exact g3,fun hn=>?_⟩;rw[rW]at hn;rw[(hβ i hi).1,(hβ i hi).2];exact g4 hn
   ·unfold jc at hlv⊢;rw[hB b hx]at hlv;exact⟨k,es,hlv,kW _,Iff.rfl,fun _=>hβn b hx⟩
 have hinn:∀x,aQ H x->aQ H2 x:=by
  rintro⟨b,v⟩ hb;rcases split b with⟨i,hi,rfl⟩|hx
  ·obtain⟨k1,_⟩:=inOld hi hb;exact(hemb'.IV (x:=(i,v)) hi).2 (hp.iS _ k1)
  ·obtain⟨o,h1,h2⟩:=hb;exact⟨o,by simp only;rw[hB b hx];exact h1,h2⟩
 have prot0:∀{x:Nat}{o:Obj},(∀i,i<cj.length->σ i≠x)->H[x]?=some o->o.live->Prot0 (β.az x):=by
  intro x o hx h1 h2;exact .inr ⟨x,o,h1,h2,fun i hi=>hx i o_,rfl⟩
 have mut':∀{i:Nat}{o:Obj},cj[i]?=some o->o.live->¬aJ (β0'.az i)->¬Prot0 (β0'.az i):=by
  intro i o h1 h2 h3;exact(hp.rel.dQ i o h1).mut h2 h3
 have hrel:cK P w' aJ aR H2 ai:=by
  refine⟨fun x o hx=>?_,fun x x' o o' h1 h2 l1 l2 hni he=>?_,fun x o hx=>?_,hp.rel.cq,fun k hk=>hp.rel.fN k (.inl hk),hp.rel.lT⟩
  ·rcases split x with⟨i,hi,rfl⟩|hn
   ·have hg:=hA i _ (hS hi);rw[hg]at hx;cases hx;refine(hemb'.VT (Prot0:=Prot0) (hS hi) (Obj.sr small' (hp.rel.refs i _ (hS hi))) (fun hlv fz=>?_)).2 (hp.rel.dQ i _ (hS hi));cases fz with
    |true=>simp[dV,(hβ i hi).1]
    |false=>
     simp only[dV,cy,if_false,(hβ i hi).1];exact⟨fun h=>⟨h.1,fun hp=>h.2 (.inl hp)⟩,fun h=>⟨h.1,mut' (hS hi) hlv h.1⟩⟩
   ·rw[hB x hn]at hx;refine fP.carry hp.cq (fun k hk=>hp.ext.same k (.inr hk)) jg (hr.refs x o hx) (fun hlv=>⟨hp.ext.same _ (.inl (prot0 hn hx hlv)),hβn x hn⟩) (fun hlv fz hh=>?_) (hr.dQ x o hx);have hp0:=prot0 hn hx hlv;cases fz with
    |true=>
     simp only[dV,if_true]at hh⊢;rw[(hβn x hn).1];exact hp.cq _ hh
    |false=>
     simp only[dV,cy,if_false]at hh⊢;rw[(hβn x hn).1];exact⟨fun hi=>(hp.fresh _ hi).elim hh.1 (fun h=>h hp0),hh.2⟩
  ·rcases split x with⟨i,hi,rfl⟩|hn<;>rcases split x' with⟨j,hj,rfl⟩|hn'
   ·have g1:=hA i _ (hS hi);have g2:=hA j _ (hS hj);rw[g1]at h1;cases h1;rw[g2]at h2;cases h2;rw[(hβ i hi).1,(hβ j hj).1]at he;rw[(hβ i hi).1]at hni;rw[hp.rel.inj i j _ _ (hS hi) (hS hj) (uV.1 l1) (uV.1 l2) hni he]
   ·have g1:=hA i _ (hS hi);rw[g1]at h1;cases h1;rw[hB x' hn']at h2;rw[(hβ i hi).1,(hβn x' hn').1]at he;rw[(hβ i hi).1]at hni;exact(mut' (hS hi) (uV.1 l1) hni (he▸prot0 hn' h2 l2)).elim
   ·have g2:=hA j _ (hS hj);rw[g2]at h2;cases h2;rw[hB x hn]at h1;rw[(hβ j hj).1,(hβn x hn).1]at he;rw[(hβn x hn).1]at hni;exact(mut' (hS hj) (uV.1 l2) (he▸hni) (he▸prot0 hn h1 l1)).elim
   ·rw[hB x hn]at h1;rw[hB x' hn']at h2;rw[(hβn x hn).1,(hβn x' hn').1]at he;rw[(hβn x hn).1]at hni;exact hr.inj _ _ _ _ h1 h2 l1 l2 (fun hi=>hni (hp.cq _ hi)) he
  ·rcases split x with⟨i,hi,rfl⟩|hn
   ·have hg:=hA i _ (hS hi);rw[hg]at hx;cases hx;rw[asJ];exact Obj.sr (fun y hy=>(hemb'.IV (small' y hy)).2 hy) (hp.rel.refs i _ (hS hi))
   ·rw[hB x hn]at hx;exact Obj.sr hinn (hr.refs x o hx)
 refine⟨aR,?_,?_,?_⟩
 ·rw[<-hH2];refine⟨hp.cq,fun k hk=>(hp.fresh k hk).imp id (fun h h'=>h (.inl h')),⟨hp.ext.size,fun k hk=>hp.ext.same k (hk.imp .inl id),hp.ext.io⟩,jg,hrel,hinn,fun b hb=>?_⟩;rcases split b with⟨i,hi,rfl⟩|hx
  ·by_cases hi0:i<H0.length
   ·exact(hemb'.loop hi).2 (hp.loop i ((hemb.loop hi0).1 hb))
   ·obtain⟨L,hL⟩:=hb;rw[hnewH i o_ hi]at hL;cases hL
  ·unfold jE at hb⊢;rw[hB b hx];exact hb
 ·rw[<-hH2];show aD P w' aJ aR H2 (df (sig bs base) v0) cv;rw[<-hσ];exact(hemb'.Ip _ _ (aI.mono small' _ hvr)).2 hv
 ·rw[<-hH2];show aI (aQ H2) (df (sig bs base) v0);rw[<-hσ,GU];exact aI.mono (fun y hy=>(hemb'.IV (small' y hy)).2 hy) _ hvr
theorem c8.frame{f:dl}{H0 cj:ak}{ib:List AV}{d:AV}(h:c8 P f H0 ib cj d)(bs:List Nat)(a:Nat)(q:bs.length=H0.length)(s:bs.Nodup)(r:∀b∈bs,b<a)
 (p:H0.length<=cj.length)(c:bk (aQ H0) ib)(t:∀(b:Nat)(o:Obj),H0[b]?=some o->o.refs (aQ H0)):
 vG P f (dw (sig bs a) ib) a (dW bs a H0 cj d):=by
 refine⟨h.1,fun H w ad ai β l v m _ aA bm=>?_⟩;obtain⟨ft,g,-,x,n,-,back⟩:=Pa bs a q s r p c t v m aA bm;refine(h.2 w ad g ft l x n c).mono ?_;rintro e w' ⟨cv,A,aJ,rfl,u,y,z⟩;obtain⟨aR,i,j,k⟩:=back cv w' A aJ u y z;exact⟨cv,aR,aJ,rfl,i,j,k⟩
theorem gJ.frame{b:Nat}{H0 cj:ak}{ib:List AV}{g:AV}(h:gJ P b H0 ib cj g)(bs:List Nat)(a:Nat)(v:bs.length=H0.length)(z:bs.Nodup)(y:∀b∈bs,b<a)
 (u:H0.length<=cj.length)(e:bk (aQ H0) ib)(A:∀(b:Nat)(o:Obj),H0[b]?=some o->o.refs (aQ H0)):
 sy P (sig bs a b) (dw (sig bs a) ib) a (dW bs a H0 cj g):=by
 intro H w ad ai β n C q _ aA bm;obtain⟨ft,i,s,D,r,x,back⟩:=Pa bs a v z y u e A C q aA bm;have t:b<H0.length:=by
  obtain⟨L,p⟩:=h.1;exact(hR.1 p).1
 refine⟨(x b t).2 h.1,?_⟩;obtain⟨f,tmps,assign,body,c,d⟩:=h.2 w ad i ft n D r e;rw[s]at c d;refine⟨f,tmps,assign,body,c,fun m G=>?_⟩;obtain⟨cv,w',I,aJ,g1,B,E,F⟩:=d m G;obtain⟨aR,j,k,l⟩:=back cv w' I aJ B E F;exact⟨cv,w',aR,aJ,g1,j,k,l⟩
end
end Go.ae
namespace Go.ae
variable[Gl]
def nv(b:Nat):List Nat->Nat->Option Nat
 |[],_=>none
 |x::r,i=>bif la x b then some i else nv b r (i+1)
theorem Rd{b:Nat}:∀{l:List Nat}{i j:Nat},nv b l i=some j->i<=j/\l[j-i]?=some b
 |[],_,_,h=>by simp[nv]at h
 |x::r,i,j,h=>by
  simp only[nv]at h;cases a:la x b
  ·simp only[a,cond_false]at h;obtain⟨d,c⟩:=Rd h;refine⟨o_,?_⟩;have e:j-i=(j-(i+1))+1:=by omega
   rw[e,List.getElem?_cons_succ];exact c
  ·simp only[a,cond_true,l4]at h;subst h;simp[gU a]
section
variable(bs:List Nat)
mutual
def pH:AV->Option AV
 | .p v=>some (.p v)
 | .ptr b path=>match nv b bs 0 with
  |some i=>some (.ptr i path)
  |none=>none
 | .cM b aF an i path=>match nv b bs 0 with
  |some j=>some (.cM j aF an i path)
  |none=>none
 | .sl b aF an off len=>match nv b bs 0 with
  |some j=>some (.sl j aF an off len)
  |none=>none
 | .map b=>match nv b bs 0 with
  |some j=>some (.map j)
  |none=>none
 | .func f d c=>match qD d,qD c with
  |some a,some b=>some (.func f a b)
  |_,_=>none
 | .st u fs=>match qD fs with
  |some a=>some (.st u a)
  |none=>none
 | .aE vs=>match qD vs with
  |some a=>some (.aE a)
  |none=>none
def qD:List AV->Option (List AV)
 |[]=>some []
 |v::r=>match pH v,qD r with
  |some a,some b=>some (a::b)
  |_,_=>none
end
def HU:Obj->Option Obj
 | .box fz t=>match pH bs t with
  |some a=>some (.box fz a)
  |none=>none
 | .arr k aF an es=>match qD bs es with
  |some a=>some (.arr k aF an a)
  |none=>none
 | .map fz es=>some (.map fz es)
 | .fC s n=>some (.fC s n)
 | .dead=>some .dead
 |_=>none
def AF(H:ak):List Nat->Option ak
 |[]=>some []
 |b::r=>match H[b]? with
  |some o=>match HU bs o,AF H r with
   |some a,some t=>some (a::t)
   |_,_=>none
  |none=>none
end
section
variable{bs:List Nat}{base:Nat}
theorem Dn{b i:Nat}(h:nv b bs 0=some i):sig bs base i=b:=by
 have:=(Rd h).2;simp only[lt]at this;simp[sig,this]
mutual
theorem Ql:∀{a c:AV},pH bs a=some c->df (sig bs base) c=a
 | .p v,c,h=>by simp only[pH,l4]at h;subst h;rfl
 | .ptr b path,c,h=>by
  simp only[pH]at h
  split at h
  ·rename_i i hi;simp only[l4]at h;subst h;simp only[df,Dn hi]
  ·simp at h
 | .cM b aF an i path,c,h=>by
  simp only[pH]at h
  split at h
  ·rename_i i hi;simp only[l4]at h;subst h;simp only[df,Dn hi]
  ·simp at h
 | .sl b aF an off len,c,h=>by
  simp only[pH]at h
  split at h
  ·rename_i i hi;simp only[l4]at h;subst h;simp only[df,Dn hi]
  ·simp at h
 | .map b,c,h=>by
  simp only[pH]at h
  split at h
  ·rename_i i hi;simp only[l4]at h;subst h;simp only[df,Dn hi]
  ·simp at h
 | .func f k j,c,h=>by
  simp only[pH]at h
  split at h
  ·rename_i a b d g;simp only[l4]at h;subst h;simp only[df,uL d,uL g]
  ·simp at h
 | .st u fs,c,h=>by
  simp only[pH]at h
  split at h
  ·rename_i a d;simp only[l4]at h;subst h;simp only[df,uL d]
  ·simp at h
 | .aE vs,c,h=>by
  simp only[pH]at h
  split at h
  ·rename_i a d;simp only[l4]at h;subst h;simp only[df,uL d]
  ·simp at h
theorem uL:∀{l e:List AV},qD bs l=some e->dw (sig bs base) e=l
 |[],e,h=>by simp only[qD,l4]at h;subst h;rfl
 |v::r,e,h=>by
  simp only[qD]at h
  split at h
  ·rename_i a b d g;simp only[l4]at h;subst h;simp only[dw,Ql d,uL g]
  ·simp at h
end
theorem arB{o c:Obj}(h:HU bs o=some c):dS (sig bs base) c=o:=by
 cases o<;>simp only[HU]at h
 case box fz t=>
  split at h
  ·rename_i a b;simp only[l4]at h;subst h;simp only[dS,Ql b]
  ·simp at h
 case arr k aF an es=>
  split at h
  ·rename_i a b;simp only[l4]at h;subst h;simp only[dS,uL b]
  ·simp at h
 case hole=>simp at h
 case loop=>simp at h
 all_goals (simp only[l4]at h;subst h;rfl)
theorem Pe{H:ak}:∀{l:List Nat}{H0:ak},AF bs H l=some H0->H0.length=l.length/\∀p∈l.zip (H0.map (dS (sig bs base))),H[p.1]?=some p.2
 |[],H0,h=>by simp only[AF,l4]at h;subst h;simp
 |b::r,H0,h=>by
  simp only[AF]at h
  split at h
  case h_2=>simp at h
  rename_i o f
  split at h
  case h_2=>simp at h
  rename_i a t d e;simp only[l4]at h;subst h;obtain⟨i1,i2⟩:=Pe e;refine⟨by simp[i1],fun p c=>?_⟩;simp only[hX,List.zip_cons_cons,hV]at c;rcases c with rfl|c
  ·simp only[arB d];exact f
  ·exact i2 p c
end
mutual
def UC:AV->List Nat->List Nat
 | .p _,acc=>acc
 | .ptr b _,acc| .cM b _ _ _ _,acc| .sl b _ _ _ _,acc| .map b,acc=>b::acc
 | .func _ c a,acc=>yw c (yw a acc)
 | .st _ fs,acc| .aE fs,acc=>yw fs acc
def yw:List AV->List Nat->List Nat
 |[],acc=>acc
 |v::r,acc=>UC v (yw r acc)
end
def aMu:Obj->List Nat
 | .box _ t=>UC t []
 | .arr _ _ _ es=>yw es []
 |_=>[]
def H8(H:ak):Nat->List Nat->List Nat->List Nat
 |0,_,acc=>acc
 |_,[],acc=>acc
 |n+1,b::r,acc=>match nv b acc 0 with
  |some _=>H8 H n r acc
  |none=>H8 H n (match H[b]? with
   |some o=>aMu o++r
   |none=>r) (b::acc)
def nodupB:List Nat->Bool
 |[]=>true
 |x::r=>(match nv x r 0 with
  |some _=>false
  |none=>true)&&nodupB r
theorem Pk{b:Nat}:∀{l:List Nat}{i:Nat},nv b l i=none->b∉l
 |[],_,_=>by simp
 |x::r,i,h=>by
  simp only[nv]at h;cases a:la x b
  ·simp only[a,cond_false]at h;have:=Pk h;simp only[hV,not_or];refine⟨fun e=>?_,this⟩;subst e;rw[lw]at a;cases a
  ·simp[a]at h
theorem Pr:∀{l:List Nat},nodupB l=true->l.Nodup
 |[],_=>List.nodup_nil
 |x::r,h=>by
  simp only[nodupB,ck]at h;rw[j2];refine⟨?_,Pr h.2⟩;have a:=h.1
  split at a
  ·simp at a
  ·rename_i hn;exact Pk hn
def EB(H:ak)(b v:Nat):Bool:=match H[b]? with
 |some .hole|none=>false
 |some (.arr _ aF _ _)=>kX v aF
 |some _=>true
theorem aMv{H:ak}{b v:Nat}(h:EB H b v=true):aQ H (b,v):=by
 unfold EB at h
 split at h
 ·simp at h
 ·simp at h
 ·rename_i k aF an c a;exact⟨_,a,fk h⟩
 ·rename_i o d e a;refine⟨o,a,?_⟩;cases o with
  |hole=>exact(d rfl).elim
  |arr k aF an c=>exact(e _ _ _ _ rfl).elim
  |_=>trivial
mutual
def vz(H:ak):AV->Bool
 | .p _=>true
 | .ptr b _| .map b=>EB H b 0
 | .cM b aF _ _ _| .sl b aF _ _ _=>EB H b aF
 | .func _ c a=>su H c&&su H a
 | .st _ fs| .aE fs=>su H fs
def su(H:ak):List AV->Bool
 |[]=>true
 |v::r=>vz H v&&su H r
end
mutual
theorem GV{H:ak}:∀{a:AV},vz H a=true->aI (aQ H) a
 | .p _,_=>by simp[aI]
 | .ptr _ _,h| .map _,h| .cM _ _ _ _ _,h| .sl _ _ _ _ _,h=>by
  simp only[vz]at h;simp only[aI];exact aMv h
 | .func _ c b,h=>by
  simp only[vz,ck]at h;simp only[aI];exact⟨uM h.1,uM h.2⟩
 | .st _ _,h| .aE _,h=>by
  simp only[vz]at h;simp only[aI];exact uM h
theorem uM{H:ak}:∀{l:List AV},su H l=true->bk (aQ H) l
 |[],_=>by simp[bk]
 |v::r,h=>by
  simp only[su,ck]at h;simp only[bk];exact⟨GV h.1,uM h.2⟩
end
def DI(H:ak):Obj->Bool
 | .box _ t=>vz H t
 | .arr _ _ _ es=>su H es
 | .loop _=>false
 |_=>true
theorem Pn{H:ak}{o:Obj}(h:DI H o=true):o.refs (aQ H):=by
 cases o<;>simp only[DI]at h<;>simp only[Obj.refs]
 ·exact GV h
 ·exact uM h
 ·simp at h
def vr(p:Obj->Bool):List Obj->Bool
 |[]=>true
 |o::r=>p o&&vr p r
theorem Ay{p:Obj->Bool}:∀{l:List Obj},vr p l=true->∀o∈l,p o=true
 |[],_,o,h=>by simp at h
 |a::r,h,o,b=>by
  simp only[vr,ck]at h;rcases hV.1 b with rfl|b
  ·exact h.1
  ·exact Ay h.2 o b
def Dz(n:Nat):List Nat->Bool
 |[]=>true
 |x::r=>kX (x+1) n&&Dz n r
theorem HQ{n:Nat}:∀{l:List Nat},Dz n l=true->∀x∈l,x<n
 |[],_,o,h=>by simp at h
 |a::r,h,o,b=>by
  simp only[Dz,ck]at h;rcases hV.1 b with rfl|b
  ·exact fk h.1
  ·exact HQ h.2 o b
def Dw:Obj->Bool
 | .hole=>false
 |_=>true
def AU(run:List AV->ak->Option (AV×ak))(args:List AV)(H:ak):Option bg:=
 let bs:=H8 H 1000 (yw args []) []
 match qD bs args,AF bs H bs with
 |some ib,some H0=>bif nodupB bs&&(Dz H.length bs&&(su H0 ib&&vr (DI H0) H0))then
  match run ib H0 with
  |some (v0,H1)=>bif kX H0.length H1.length&&(vr Dw (H1.take H0.length))then some (dW bs H.length H0 H1 v0)else none
  |none=>none
  else none
 |_,_=>none
theorem GM{P:c9}{f:dl}{run:List AV->ak->Option (AV×ak)}(n:∀args H v H',run args H=some (v,H')->c8 P f H args H' v){args:List AV}{H:ak}{e:bg}(h:AU run args H=some e):
 vG P f args H.length e/\sC H e:=by
 unfold AU at h;dsimp only at h
 split at h
 case h_2=>simp at h
 rename_i ib H0 g i;simp only[cx,lW,ck]at h;obtain⟨⟨g1,g2,g3,g4⟩,h⟩:=h
 split at h
 case h_2=>simp at h
 rename_i q H1 j;simp only[lW,l4]at h;obtain⟨⟨g5,g7⟩,rfl⟩:=h;obtain⟨k1,k2⟩:=Pe (base:=H.length) i;have hf:=(n _ _ _ _ j).frame _ H.length k1.symm (Pr g1) (HQ g2) (fk g5) (uM g3) (fun b o k=>Pn (Ay g4 o (i4 k)));rw[uL g]at hf;refine⟨hf,k2,fun p d=>?_⟩;simp only[dW]at d;have c:=j1 d;refine⟨HQ g2 _ c.1,fun l=>?_⟩;obtain⟨o,m,a⟩:=j6.1 c.2;rw[l]at a;have:=Ay g7 o m;rw[av1.1 a]at this;simp[Dw]at this
mutual
theorem AW:∀v:AV,df (fun i=>i) v=v
 | .p _| .sl .. | .cM .. | .ptr .. | .map _=>rfl
 | .st u vs=>by simp only[df,tz vs]
 | .aE vs=>by simp only[df,tz vs]
 | .func f a b=>by simp only[df,tz a,tz b]
theorem tz:∀l:List AV,dw (fun i=>i) l=l
 |[]=>rfl
 |v::l=>by simp only[dw,AW v,tz l]
end
theorem PI:∀e:Env,xT (fun i=>i) e=e
 |[]=>rfl
 |(x,v)::r=>by simp only[xT,AW v,PI r]
theorem TX(o:Obj):dS (fun i=>i) o=o:=by
 cases o<;>simp only[dS,AW,tz,PI]
theorem D8(n:Nat):sig (h6 n) n=fun i=>i:=by
 funext i
 by_cases h:i<n
 ·rw[xC (by simpa using h)];simp
 ·rw[xD (by simpa using h)];simp;omega
def gX(H:ak):List (Nat×Obj):=(h6 H.length).zip H
theorem ym{H:ak}{p:Nat×Obj}(h:p∈gX H):H[p.1]?=some p.2:=by
 rw[gX,ik]at h;obtain⟨i,hi,a⟩:=h;rw[List.getElem_zip]at a;subst a;simp
def Eu(H:ak):Env->Bool
 |[]=>true
 |(_,v)::r=>vz H v&&Eu H r
theorem RW{H:ak}:∀{e:Env},Eu H e=true->∀x,aI (aQ H) (aV e x)
 |[],_,x=>by simp[aV,aI]
 |(y,v)::r,h,x=>by
  simp only[Eu,ck]at h;simp only[aV]
  split
  ·exact GV h.1
  ·exact RW h.2 x
def S1(H:ak):Obj->Bool
 | .loop L=>Eu H L.env
 |o=>DI H o
theorem asK{H:ak}{o:Obj}(h:S1 H o=true):o.refs (aQ H):=by
 cases o<;>first
  |exact Pn h
  |exact RW h
def Hz(run:Nat->ak->List AV->Option (ak×AV))(b:Nat)(args:List AV)(H:ak):Option bg:=
 bif su H args&&vr (S1 H) H then
  match run b H args with
  |some (H1,v)=>bif kX H.length H1.length&&(vr Dw (H1.take H.length))then some {v,aA:=gX H,aW:=(h6 H.length).zip (H1.take H.length),bm:=H1.drop H.length}else none
  |none=>none
 else none
theorem aqU{P:c9}{run:Nat->ak->List AV->Option (ak×AV)}(k:∀b H args H' v,run b H args=some (H',v)->gJ P b H args H' v){b:Nat}{args:List AV}{H:ak}{e:bg}(h:Hz run b args H=some e):
 sy P b args H.length e/\sC H e:=by
 unfold Hz at h;simp only[cx,lW,ck]at h;obtain⟨⟨g3,g4⟩,h⟩:=h
 split at h
 case h_2=>simp at h
 rename_i H1 f g;simp only[lW,l4]at h;obtain⟨⟨g5,g7⟩,rfl⟩:=h;have hf:=(k _ _ _ _ _ g).frame (h6 H.length) H.length s_ kw (fun b a=>by simpa using a) (fk g5) (uM g3) (fun b o a=>asK (Ay g4 o (i4 a)));have e:dW (h6 H.length) H.length H H1 f={v:=f,aA:=gX H,aW:=(h6 H.length).zip (H1.take H.length),bm:=H1.drop H.length}:=by
  simp only[dW,D8,AW];rw[show(dS fun i=>i)=id from funext TX,js,js,js,gX]
 rw[e,D8,tz]at hf;refine⟨hf,fun p c=>ym c,fun p c=>?_⟩;have d:=j1 c;refine⟨by simpa using d.1,fun j=>?_⟩;have:=Ay g7 p.2 d.2;rw[j]at this;simp[Dw]at this
end Go.ae
