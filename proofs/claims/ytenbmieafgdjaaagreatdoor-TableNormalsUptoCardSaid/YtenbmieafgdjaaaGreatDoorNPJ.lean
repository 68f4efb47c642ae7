import Derived.Test.YtenbmieafgdjaaaGreatDoorNPI
import Derived.Test.YtenbmieafgdjaaaGreatDoorNPH
import Derived.Test.YtenbmieafgdjaaaGreatDoorNPG
/- Parts of a proof. -/
set_option linter.unusedSimpArgs false
set_option linter.unusedVariables false
set_option linter.unusedSectionVars false
open Go.Proofs.Tryz
open Bool renaming cond_eq_ite->a9, and_eq_true->bb, false_eq_true->be, or_eq_true->bi
open Go.IntKind renaming i64->bk
open Int renaming natAbs_natCast->bl, natAbs_mul->bo, ofNat_natAbs_of_nonpos->br, mul_ediv_cancel_left->bv, natCast_mul->b0, natCast_nonneg->b1, tmod_eq_emod_of_nonneg->b2, tdiv_eq_ediv_of_nonneg->b3, ofNat_dvd_left->b4, natAbs_neg->b5, natCast_emod->cb, natCast_ediv->cc, mul_nonneg->ce, mul_neg_of_pos_of_neg->ck, negSucc->cv, natAbs_of_nonneg->cx, natCast_one->cy, ediv_one->c6
open List renaming getElem?_eq_getElem->c9, all_eq_true->da, take_of_length_le->db, length_take->dg, getElem_mem->dk, take->dl, length_pos_iff->dp, length_drop->dq, getD_eq_getElem?_getD->dz, length->ea, getElem_of_eq->eb, take_length->ec, take_take->ed, mem_cons->ee, map_take->ei
open Nat renaming eq_of_beq_eq_true->ej, beq->em, le_trans->en, lt_of_lt_of_le->eo, pow_le_pow_right->eq, gcd_pos_of_pos_right->ew, mul_ne_zero->e6, gcd->e7, blt->e8, lt_of_le_of_lt->e9, blt_eq->fb, zero_le->fd, gcd_dvd_left->fl, pow_succ->fm, lt_or_ge->fv, mul_lt_mul''->fI, gcd_le_right->ga, div_one->gb, div_le_self->gc, div_div_eq_div_mul->ge, div_lt_iff_lt_mul->gg, pow_mul->gi, pow_add->gj, div_pos->gl, min_eq_left->gm, mul_le_mul->gt, pow_zero->gx, pow_pos->gy, pow_one->g0, le_refl->g1, mod_lt->g2
open Option.some renaming injEq->g3
open Rat renaming divInt->g4, sub_add_cancel->g5, divInt_mul_divInt->g6, zero_add->g7, div_def->g8, divInt_add_divInt->g9, add_lt_add_right->ha, neg_divInt_neg->hb, neg_divInt->hd, inv_divInt->hg, sub_self->hj, neg_num->hm, not_le->hn
namespace Go.au
open Go.Proofs
set_option maxHeartbeats 4000000
set_option maxRecDepth 100000
theorem Ty{s:List Nat}{i:Nat}(h:i<s.length):aW (s.take (i+1))=aW (s.take i)*10+(s[i]-48):=by
 rw[List.take_succ_eq_append_getElem h,wX]
theorem ug{s:List Nat}{p:Nat->Bool}(h:s.all p=true)(i:Nat):(s.take i).all p=true:=by
 rw[da]at h⊢;intro x hx;exact h x (List.mem_of_mem_take hx)
theorem J1{s:List Nat}{p:Nat->Bool}(h:s.all p=true)(i:Nat):(s.drop i).all p=true:=by
 rw[da]at h⊢;intro x hx;exact h x (List.mem_of_mem_drop hx)
theorem xP{c:Nat}(h:cm c=true):48<=c/\c<=57:=by
 simpa[cm]using h
theorem xH(s:List Nat)(e:s.all cm=true)(hl:s.length<=18):az prog 196 [.str s] (.int .i64 (aW s:Nat)):=by
 refine aO nf Ej mix (by simp[f196]) ?_;obtain⟨L,g⟩:∃L,L=s.length:=⟨_,rfl⟩
 have k:aW (s.take L)=aW s:=by rw[g,ec]
 rw[<-k];obtain⟨v,b⟩:∃v:Nat->Nat,∀i,aW (s.take i)=v i:=⟨_,fun _=>rfl⟩
 have o:v 0=0:=by rw[<-b];rfl
 have q:∀i(h:i<s.length),v (i+1)=v i*10+(s[i]-48):=fun i h=>by rw[<-b,<-b,Ty h]
 have f:∀i,i<=L->v i<10^i:=fun i hi=>by
  rw[<-b];exact jd i _ (by rw[dg];omega) (ug e i)
 rw[b];simp[f196];refine lp (α:=Nat) (fun i=>⟨[(4,.p (.int .i64 i)),(3,.p (.int .i64 (v i:Nat))),(0,.p (.str s))],[]⟩)
  (fun i=>i<=L) (fun i=>L-i) 0 (fd _) ?_ (he:=by simp[o])
 intro i hi
 by_cases m:i<L
 ·have a:i<s.length:=by omega
  have j:=f i hi;have A:=f (i+1) m;have hc:=xP (da.1 e s[i] (dk a));have hs:=q i a;have n:10^i<=10^17:=eq (by decide) (by omega);have z:v i<100000000000000000:=eo j (by exact n);generalize d:s[i]=c at*;generalize B:v i=x at*;have r:bk.wrap (10*(x:Int))=10*(x:Int):=aN _ (by omega) (by omega);have t:bk.wrap (10*(x:Int)+c)=10*(x:Int)+c:=aN _ (by omega) (by omega);have u:bk.wrap (10*(x:Int)+c-48)=(v (i+1):Nat):=by rw[hs,aN _ (by omega) (by omega)];omega
  have w:bk.wrap ((i:Int)+1)=(i:Int)+1:=aN _ (by omega) (by omega);have y:bk.wrap (c:Int)=c:=aN _ (by omega) (by omega);have l:s[i]?=some c:=by rw[c9 a,d]
  simp[a,d,l,r,t,u,w,y];exact rd (i+1) (show i+1<=L by omega)
 ·have a:¬i<s.length:=by omega
  have:i=L:=by omega
  subst this;simp[a]
theorem KK(c:Nat):∀s:List Nat,c∉(bZ c s).1
 |[]=>by simp[bZ]
 |x::r=>by
  rw[bZ]
  split
  ·simp
  ·rename_i h;simp only[ee,not_or];exact⟨fun e=>h e.symm,KK c r⟩
theorem AQ(s:List Nat)(hl:s.length<=1048576):az prog 94 [.str s] (.int .i64 ((bZ 47 s).1.length:Nat)):=by
 refine aO nf Og mix (by simp[f94]) ?_;obtain⟨k,hk⟩:∃k,(bZ 47 s).1.length=k:=⟨_,rfl⟩
 have t:=KK 47 s;have w:k<=s.length:=by rw[<-hk];exact(ov 47 s).1
 have n:∀j(h:j<s.length),j<k->¬s[j]=47:=by
  intro j h v e;apply t;rcases oH 47 s with⟨_,b⟩|⟨_,b,_⟩
  ·have:s[j]=(bZ 47 s).1[j]'(by omega):=by
    conv=>lhs;rw[eb b]
    rw[List.getElem_append_left]
   have d:(bZ 47 s).1[j]'(by omega)∈(bZ 47 s).1:=dk _;rw[<-this,e]at d;exact d
  ·rw[b];have d:s[j]∈s:=dk _
   rwa [e]at d
 have b:∀(h:k<s.length),s[k]=47:=by
  intro h;rcases oH 47 s with⟨_,g⟩|⟨_,g,_⟩
  ·rw[eb g,List.getElem_append_right (by omega)];simp[hk]
  ·rw[g]at hk;omega
 rw[hk];simp[f94];refine lp (α:=Nat) (fun i=>⟨[(3,.p (.int .i64 i)),(0,.p (.str s))],[]⟩)
  (fun i=>i<=k) (fun i=>k-i) 0 (fd _) ?_
 intro i hi;have u:bk.wrap ((i:Int)+1)=(i:Int)+1:=aN _ (by omega) (by omega)
 by_cases q:i<k
 ·have a:i<s.length:=by omega
  have f:=n i a q;generalize m:s[i]=c at*;have l:s[i]?=some c:=by rw[c9 a,m]
  have o:¬(c:Int)=47:=by omega
  simp[a,m,l,o,f,u];exact rd (i+1) (show i+1<=k by omega)
 ·have r:i=k:=by omega
  subst r
  by_cases a:i<s.length
  ·have f:=b a;have l:s[i]?=some 47:=by rw[c9 a,f]
   simp[a,f,l]
  ·have:i=s.length:=by omega
   simp[a,this]
theorem Lh(n:Int)(M:-9223372036854775808<=n)(O:n<=9223372036854775807):az prog 113 [.int .i64 n] (eG n):=by
 refine aO nf EA mix (by simp[f113]) ?_;obtain⟨N,P⟩:∃N,n.natAbs=N:=⟨_,rfl⟩
 have D:N<bT^3:=by
  have:bT^3=1000000000000000000000000000:=by decide
  omega
 obtain⟨g,a⟩:∃g:Nat->Nat,∀i,N/bT^i=g i:=⟨_,fun _=>rfl⟩
 have F:g 0=N:=by rw[<-a,gx,gb]
 have H:∀i,g (i+1)=g i/bT:=fun i=>by rw[<-a,<-a,ge,fm]
 have A:∀i,ae bT N i=g i% bT:=fun i=>by rw[<-a];rfl
 have G:g 3=0:=by rw[<-a,Nat.div_eq_of_lt D]
 have k:∀i,g i<=N:=fun i=>by rw[<-a];exact gc _ _
 have y:∀i,i<=3->g i=0->az prog 198 [.bool (decide (n<0)),.seq (iP (row bT i N))] (eG n):=fun i I hi=>by
  have h:=Be (decide (n<0)) (row bT i N) N (jg aY (by
   rw[<-a]at hi;rcases fv N (bT^i)with h|h
   ·exact h
   ·have:=gl h (gy (show 0<bT by decide));omega)) (by simp[row];omega)
  have e:(if decide (n<0)=true then -(N:Int)else N)=n:=by
   by_cases c:n<0
   ·simp[c];omega
   ·simp[c];omega
  rwa [e]at h
 obtain⟨m,f⟩:∃m:Nat->Int,∀i,(if n<0 then -(g i:Int)else g i)=m i:=⟨_,fun _=>rfl⟩
 have J:m 0=n:=by rw[<-f,F];split<;>omega
 simp only[eG]at y⊢;simp[f113];refine lp (α:=Nat) (fun i=>⟨[(0,.p (.int .i64 (m i))),(2,.ptr 0 []),(3,.sl 1 i 1 0 i),(4,.p (.bool (decide (n<0))))],[.box false (.p (.st 169 [.bool false,.aG])),.arr .grow i 1 (dU i N)]⟩)
  (fun i=>i<=3) (fun i=>3-i) 0 (fd _) ?_ (he:=by simp[J,dU]) (hh:=by simp[dU])
 intro i hi;have Q:bT=1000000000:=rfl;have L:=g2 (g i) (show 0<bT by decide);have R:=k i;have E:=Nat.div_add_mod (g i) bT;have u:g i% bT=ae bT N i:=(A i).symm
 by_cases d:g i=0
 ·have b:m i=0:=by rw[<-f,d];split<;>rfl
  have hs:=y i hi d;rcases i with _|i
  ·simp[b];refine cp hs (by simp[dU];first|exact⟨rfl,rfl⟩|rfl) ?_ (h1:=by simp[iP,row]);simp[ad]
  ·have j:¬dU (i+1) N=[]:=by intro h;have:=congrArg ea h;rw[gZ]at this;simp at this
   simp[b];refine cp hs (by simp[gZ,Kb,j];first|exact⟨rfl,rfl⟩|rfl) ?_ (h1:=by simp[iP,row,ei,db]);simp[ad]
 ·have I:i<3:=by
   rcases fv i 3 with h|h
   ·exact h
   ·rw[show i=3 by omega]at d;exact(d G).elim
  have z:=H i;have K:=A i;have l:=pG i N;have x:dl i (dU i N)=dU i N:=db (by rw[gZ];exact g1 _);rw[K]at l;obtain⟨r,B⟩:∃r,g i% bT=r:=⟨_,rfl⟩
  rw[B]at l L E;have u:=B.symm
  by_cases c:n<0
  ·have b:m i= -(g i:Int):=by rw[<-f,if_pos c]
   have o:m (i+1)= -(g (i+1):Int):=by rw[<-f,if_pos c]
   have j:¬(g i:Int)=0:=by omega
   have s:((g i:Nat):Int).tmod 1000000000=r:=by rw[u,b2 (b1 _),cb];rfl
   have q:((g i:Nat):Int).tdiv 1000000000=(g (i+1):Nat):=by rw[z,b3 (b1 _),cc (g i)];rfl
   have wr:bk.wrap (r:Int)=r:=aN _ (by omega) (by omega);have C:bk.wrap (-(r:Int))= -r:=aN _ (by omega) (by omega);have t:bk.wrap (-(g (i+1):Int))= -(g (i+1):Nat):=aN _ (by have:=k (i+1);omega) (by have:=k (i+1);omega)
   by_cases v:r=0
   ·simp[b,d,j,s,q,wr,C,t,v,x,gZ];refine⟨by simp only[cT];omega,?_⟩;exact rd (i+1) (show i+1<=3 by omega) (he:=by simp[o]) (hh:=by simp[l,v])
   ·have w:0<r:=by omega
    simp[b,d,j,s,q,wr,C,t,v,w,x,gZ];refine⟨by simp only[cT];omega,?_⟩;exact rd (i+1) (show i+1<=3 by omega) (he:=by simp[o]) (hh:=by simp[l])
  ·have b:m i=(g i:Int):=by rw[<-f,if_neg c]
   have o:m (i+1)=(g (i+1):Int):=by rw[<-f,if_neg c]
   have j:¬(g i:Int)=0:=by omega
   have s:((g i:Nat):Int).tmod 1000000000=r:=by rw[u,b2 (b1 _),cb];rfl
   have q:((g i:Nat):Int).tdiv 1000000000=(g (i+1):Nat):=by rw[z,b3 (b1 _),cc (g i)];rfl
   have wr:bk.wrap (r:Int)=r:=aN _ (by omega) (by omega);have t:bk.wrap (g (i+1):Int)=(g (i+1):Nat):=aN _ (by have:=k (i+1);omega) (by have:=k (i+1);omega);have w:¬(r:Int)<0:=by omega
   simp[b,d,j,s,q,wr,t,w,x,gZ];refine⟨by simp only[cT];omega,?_⟩;exact rd (i+1) (show i+1<=3 by omega) (he:=by simp[o]) (hh:=by simp[l])
theorem Hi{d:List Nat}(b:d.all cm=true){L i:Nat}(c:L=d.length)(h:9*(i+1)<=L):
 aW (d.take (L-9*(i+1)))=aW (d.take (L-9*i))/10^9/\aW ((d.take (L-9*i)).drop (L-9*(i+1)))=aW (d.take (L-9*i))% 10^9:=by
 have e:=List.take_append_drop (L-9*(i+1)) (d.take (L-9*i));rw[ed,gm (by omega)]at e;have a:=IU (d.take (L-9*(i+1))) ((d.take (L-9*i)).drop (L-9*(i+1)));rw[e]at a;have hl:((d.take (L-9*i)).drop (L-9*(i+1))).length=9:=by rw[dq,dg];omega
 rw[hl]at a;have f:=jd 9 _ hl (J1 (ug b _) _);generalize aW ((d.take (L-9*i)).drop (L-9*(i+1)))=y at*;generalize aW (d.take (L-9*(i+1)))=x at*;rw[a];omega
theorem Bf(s:List Nat)(k:(cS s).all cm=true)(hl:s.length<=1000000):az prog 194 [.str s] (eG (if bV s=true then -(aW (cS s):Int)else aW (cS s))):=by
 refine aO nf El mix (by simp[f194]) ?_;obtain⟨d,v⟩:∃d,cS s=d:=⟨_,rfl⟩
 obtain⟨neg,f⟩:∃neg,bV s=neg:=⟨_,rfl⟩
 obtain⟨N,F⟩:∃N,aW d=N:=⟨_,rfl⟩
 have ag:d.length<=1000000:=by rw[<-v];exact en (od s).1 hl
 rw[v]at k⊢;rw[f,F];have ah:=hl;simp[f194,-bm];rw[bm];simp[-bm];refine join (fun st=>aM st.env 0=.p (.str s)/\aM st.env 2=.ptr 0 []/\aM st.env 3=.p (.bool neg)/\st.heap=[.box false (.p (.st 169 [.bool false,.aG]))]) ?_ ?_
 ·cases s with
  |nil=>simp[<-f,bV]
  |cons c r=>
   by_cases hc:c=45
   ·simp[<-f,bV,hc]
   ·have S:¬(c:Int)=45:=by omega
    simp[<-f,bV,hc,S]
 rintro⟨R,T⟩ ⟨a,b,e,n⟩;dsimp only at a b e n;subst n;refine join (fun st=>aM st.env 0=.p (.str d)/\aM st.env 2=.ptr 0 []/\aM st.env 3=.p (.bool neg)/\st.heap=[.box false (.p (.st 169 [.bool false,.aG]))]) ?_ ?_
 ·cases neg with
  |false=>
   have D:s=d:=by rw[<-v,cS,f];rfl
   simp[a,b,e,D]
  |true=>
   cases s with
   |nil=>simp[bV]at f
   |cons c r=>
    have D:r=d:=by rw[<-v,cS,f];rfl
    simp[a,b,e,D]
 clear a b e;rintro⟨R,T⟩ ⟨a,b,e,n⟩;dsimp only at a b e n;subst n;obtain⟨L,u⟩:∃L,L=d.length:=⟨_,rfl⟩
 obtain⟨g,l⟩:∃g:Nat->Nat,∀i,N/bT^i=g i:=⟨_,fun _=>rfl⟩
 have B:∀i,9*i<=L->aW (d.take (L-9*i))=g i:=by
  intro i
  induction i with
  |zero=>intro _;rw[Nat.mul_zero,Nat.sub_zero,u,ec,F,<-l,gx,gb]
  |succ i ab=>
   intro h;rw[(Hi k u h).1,ab (by omega),<-l,<-l,ge,fm];rfl
 have U:∀i,9*(i+1)<=L->aW ((d.take (L-9*i)).drop (L-9*(i+1)))=ae bT N i:=fun i h=>by
  rw[(Hi k u h).2,B i (by omega),<-l];rfl
 have aa:∀i,9*(i+1)<=L->az prog 196 [.str ((d.take (L-9*i)).drop (L-9*(i+1)))] (.int .i64 (ae bT N i:Nat)):=fun i h=>by
  rw[<-U i h];exact xH _ (J1 (ug k _) _) (by rw[dq,dg];omega)
 have I:∀i,9*i<=L->L<=9*i+9->g i=ae bT N i/\N<bT^(i+1):=fun i j q=>by
  have H:=jd _ (d.take (L-9*i)) rfl (ug k _);rw[B i j]at H;have y:g i<bT:=eo H (by
   rw[show bT=10^9 from rfl];exact eq (by decide) (by rw[dg];omega))
  refine⟨by rw[ae,l,Nat.mod_eq_of_lt y],?_⟩;rw[<-l,gg (gy (by decide))]at y;rw[fm,Nat.mul_comm];exact y
 have V:∀i,9*i<=L->L<=9*i+9->az prog 196 [.str (d.take (L-9*i))] (.int .i64 (ae bT N i:Nat)):=fun i j q=>by
  rw[<-(I i j q).1,<-B i j];exact xH _ (ug k _) (by rw[dg];omega)
 have G:∀i,9*i<=L->L<=9*i+9->az prog 198 [.bool neg,.seq (iP (row bT (i+1) N))] (eG (if neg=true then -(N:Int)else N)):=fun i j q=>
  Be neg (row bT (i+1) N) N (jg aY (I i j q).2) (by simp[row];omega)
 generalize (if neg=true then -(N:Int)else N)=z at*;simp only[eG]at G⊢;rw[bm];simp[a,b,e,-bm];rw[bm];simp[a,b,e];refine lp (α:=Nat) (fun i=>⟨[(0,.p (.str (d.take (L-9*i)))),(2,.ptr 0 []),(3,.p (.bool neg)),(4,.sl 1 i 1 0 i)],[.box false (.p (.st 169 [.bool false,.aG])),.arr .grow i 1 (dU i N)]⟩)
  (fun i=>9*i<=L) (fun i=>L-i) 0 (fd _) ?_ (he:=by simp[a,b,e,dU,u]) (hh:=by simp[dU])
 intro i hi;have x:(d.take (L-9*i)).length=L-9*i:=by rw[dg];omega
 have o:=aa i;have w:=V i hi;have E:(d.take (L-9*i)).take (L-9*(i+1))=d.take (L-9*(i+1)):=by rw[ed,gm (by omega)]
 rw[show L-9*(i+1)=L-9*i-9 by omega]at o E;obtain⟨m,C⟩:∃m,m=L-9*i:=⟨_,rfl⟩
 rw[<-C]at x o w E;have M:=pG i N;have O:dl i (dU i N)=dU i N:=db (by rw[gZ];exact g1 _);have J:i+1<=cT:=by simp only[cT];omega
 by_cases ac:9<m
 ·have o:=o (by omega);have P:bk.wrap ((m:Int)-9)=(m:Int)-9:=aN _ (by omega) (by omega);have Q:((m:Int)-9).toNat=m-9:=by omega
  have K:(9:Int)<=m:=by omega
  have Y:9*(i+1)<=L:=by omega
  rw[<-C];generalize af:dl m d=t at*;have Z:dl m t=t:=db (by omega);have A:(9:Int)<m:=by omega
  have W:m-9=L-9*(i+1):=by omega
  simp[x,A,P,Q,K,Z];refine c1 o ?_;simp[O,gZ,J,<-M,x,P,Q,K,E];exact rd (i+1) Y (he:=by simp[W])
 ·have w:=w (by omega);have hs:=G i hi (by omega);rw[<-C];generalize dl m d=t at*;have A:¬(9:Int)<m:=by omega
  simp[x,A];refine c1 w ?_;simp[O,gZ,J,<-M];have X:¬dU (i+1) N=[]:=by intro h;have:=congrArg ea h;rw[gZ]at this;simp at this
  refine cp hs (by simp[gZ,Kb,X];first|exact⟨rfl,rfl⟩|rfl) ?_ (h1:=by simp[iP,row,ei,db]);simp[ad]
def jA(s:List Nat):Int:=if bV s=true then -(aW (bD s):Int)else aW (bD s)
def ic(s:List Nat):Nat:=if dR s=true then aW (bK s)else 1
theorem JA(s:List Nat)(q:(bD s).all cm=true)(l:(bK s).all cm=true)(hl:s.length<=1000000):az prog 96 [.str s] (.aC [eG (jA s),eG (ic s:Nat)]):=by
 refine aO nf Oi mix (by simp[f96]) ?_;have e:=AQ s (by omega);obtain⟨K,f,h,D⟩:=IE s;have I:=ov 47 s;have C:=Lh 1 (by decide) (by decide);rcases oH 47 s with⟨q1,b⟩|⟨q1,b,M⟩
 ·have a:=Bf (bZ 47 s).1 (by rw[f];exact q) (by omega);rw[K,f]at a;have d:=Bf (bZ 47 s).2.1 (by
   rw[h];rw[da]at l⊢;intro x hx;exact l x ((od _).2 x hx)) (by omega)
  have J:bV (bK s)=false:=by
   rw[bV];cases g:bK s with
   |nil=>simp
   |cons c r=>
    have:=xP (da.1 l c (by rw[g];simp));simp;omega
  rw[h,cS,J]at d;have m:dR s=true:=by rw[<-D];exact q1
  have nI:jA s=if bV s=true then -(aW (bD s):Int)else aW (bD s):=rfl
  have j:ic s=aW (bK s):=by rw[ic,if_pos m]
  rw[<-nI]at a;simp only[be,if_false]at d;rw[<-j]at d;generalize L:jA s=z at*;generalize ic s=dn at*;obtain⟨i,o⟩:∃i,(bZ 47 s).1=i:=⟨_,rfl⟩
  obtain⟨E,p⟩:∃E,(bZ 47 s).2.1=E:=⟨_,rfl⟩
  rw[o,p]at b;rw[o]at e a;rw[p]at h;obtain⟨k,n⟩:∃k,i.length=k:=⟨_,rfl⟩
  rw[n]at e;have hk:k<s.length:=by rw[b];simp;omega
  have B:s.take k=i:=by rw[b,<-n];simp
  have g:s.drop (k+1)=bK s:=by
   rw[<-h]
   conv=>lhs;rw[b,<-n]
   simp
  clear I b o p;have G:bk.wrap ((k:Int)+1)=(k:Int)+1:=aN _ (by omega) (by omega);have F:((k:Int)+1).toNat=k+1:=by omega
  have y:¬(k:Int)=s.length:=by omega
  have u:k+1<=s.length:=hk;have w:k<=s.length:=by omega
  have t:(0:Int)<=k+1:=by omega
  have v:(k:Int)+1<=s.length:=by omega
  simp only[eG]at a d⊢;simp[f96];refine c1 e ?_;simp[y,G,F,B,g,u,w,t,v];refine e1 a ?_;simp[y,G,F,B,g,u,w,t,v];refine e1 d ?_;simp[ad]
 ·have a:=Bf s (by
   have A:=f;rw[b]at A;rw[A];exact q) hl
  have m:dR s=false:=by rw[<-D];exact q1
  have H:cS s=bD s:=by rw[b]at f;exact f
  have nI:jA s=if bV s=true then -(aW (bD s):Int)else aW (bD s):=rfl
  have j:ic s=1:=by rw[ic,m];rfl
  rw[H,<-nI]at a;rw[j];rw[b]at e;generalize jA s=z at*;simp only[eG]at a C⊢;simp[f96];refine c1 e ?_;simp;refine c1 a ?_;simp;refine c1 C ?_;simp[ad]
theorem Hj(n:Nat):(bp n).length<=9*(aq bT n).length+1:=by
 rcases Nat.eq_zero_or_pos n with h|h
 ·subst h;rw[pD];simp
 ·have hl:0<(aq bT n).length:=by rw[dp,Ne,ue];omega
  have a:=cj aY n;rw[show bT^(aq bT n).length=10^(9*(aq bT n).length)by rw[gi];rfl]at a;exact en (tT a (by omega)) (by omega)
def mB(n d:Int):Rat:=g4 n d
theorem G2(n g:Nat):(aq bT (n/g)).length<=(aq bT n).length:=
 dK aY _ _ (e9 (gc n g) (cj aY n))
theorem SP(n d:Nat)(a:0<d):(aq bT (e7 n d)).length<=(aq bT d).length:=
 dK aY _ _ (e9 (ga n a) (cj aY d))
theorem Gn(n d:Int)(L:d≠0)(s:(aq bT n.natAbs).length<=400000)(j:(aq bT d.natAbs).length<=400000):az prog 99 [eG n,eG d] (.str (bN (mB n d))):=by
 refine aO nf Ok mix (by simp[f99]) ?_;simp[f99,-bm,ad];rw[bm];simp[-bm,ad];refine join (fun st=>∃(e:Int)(d':Nat),0<d'/\(aq bT e.natAbs).length<=400000/\(aq bT d').length<=400000/\mB e d'=mB n d/\aM st.env 2=.ptr 0 []/\aM st.env 3=.ptr 1 []/\st.heap=[.box false (.p (eG e)),.box false (.p (eG (d':Nat)))]) ?_ ?_
 ·have P:=Ll n s;have O:=Ll d j
  by_cases h:d<0
  ·simp[h,ad];refine e1 P ?_;simp[ad];refine e1 O ?_;simp[ad];refine⟨by repeat' first|rfl|apply And.intro,?_⟩;refine⟨-n,d.natAbs,by omega,by rw[b5];exact s,j,?_,rfl,?_⟩
   ·rw[br (by omega)];exact hb _ _
   ·rw[br (by omega)]
  ·have A:((d.natAbs:Nat):Int)=d:=cx (by omega);simp[h,ad];exact⟨n,d.natAbs,by omega,s,j,by rw[A],rfl,by rw[A]⟩
 rintro⟨T,U⟩ ⟨e,d',k1,k2,k3,k4,l,m,D⟩;dsimp only at l m D;subst D;rw[<-k4,show mB e d'=g4 e d' from rfl];clear k4 s j L;obtain⟨u,v⟩:=ld (n:=e) (show d'≠0 by omega);obtain⟨g,k⟩:∃g,e7 e.natAbs d'=g:=⟨_,rfl⟩
 have r:0<g:=by rw[<-k];exact ew _ k1
 have B:(aq bT g).length<=400000:=by rw[<-k];exact en (SP _ _ k1) k3
 rw[k]at u v;have y:=Je e.natAbs d' k2 k3;rw[k]at y;have I:=CB e.natAbs g r k2 B;have J:=CB d' g r k3 B;have Y:(aq bT (e.natAbs/g)).length<=400000:=en (G2 _ _) k2;have Z:(aq bT (d'/g)).length<=400000:=en (G2 _ _) k3;have w:=py (decide (e<0)) (e.natAbs/g) (by omega);have f:=py false (d'/g) (by omega);have t:(if decide (e<0)=true then -((e.natAbs/g:Nat):Int)else((e.natAbs/g:Nat):Int))=(g4 e d').num:=by
  rw[u];have M:(g:Int)∣e:=by rw[<-k];exact b4.2 (fl _ _)
  obtain⟨c,hc⟩:=M;have N:(g:Int)≠0:=by omega
  rw[hc,bv _ N,bo,bl,Nat.mul_div_cancel_left _ r]
  by_cases K:c<0
  ·have:(g:Int)*c<0:=ck (by omega) K;simp[this];omega
  ·have:¬(g:Int)*c<0:=by
    have:=ce (a:=(g:Int)) (b:=c) (by omega) (by omega);omega
   simp[this];omega
 rw[t]at w;simp only[be,if_false]at f;have z:=BW (g4 e d').num (by
  rw[<-t];split
  ·rw[b5,bl];omega
  ·rw[bl];omega)
 have i:=BW ((d'/g:Nat):Int) (by rw[bl];omega);rw[tU]at i;have Q:0<d'/g:=by
  refine gl ?_ r;rw[<-k];exact ga _ k1
 have V:(cQ (g4 e d').num).length<=3600002:=by
  refine en (BB _) ?_;have h:=Hj (g4 e d').num.natAbs;have:(g4 e d').num.natAbs=e.natAbs/g:=by
   rw[<-t];split
   ·rw[b5,bl]
   ·rw[bl]
  rw[this]at h⊢;omega
 have W:(bp (d'/g)).length<=3600001:=by
  have h:=Hj (d'/g);omega
 have F:bN (g4 e d')=if d'/g=1 then cQ (g4 e d').num else cQ (g4 e d').num++47::bp (d'/g):=by rw[bN,v]
 rw[F];clear F t u v;generalize (g4 e d').num=G at*;generalize aa:d'/g=q at*;simp only[eG,bl]at w f z i⊢;simp[l,m,ad];refine c2 y ?_;simp[l,m,ad];refine c2 I ?_;simp[l,m,ad];refine c2 J ?_;simp[l,m,ad];refine c2 w ?_;simp[l,m,ad];refine c1 z ?_;have R:∀h:q=1,aq bT q=[1]:=fun h=>by rw[h];exact mX (by decide) (by decide)
 by_cases o:q=1
 ·have x:=R o;simp[o,eT,mX (show 0<1 by decide) (show 1<bT by decide)]
 ·have C:(cQ G).length+1<9223372036854775808:=by omega
  have X:(cQ G).length+((bp q).length+1)<9223372036854775808:=by omega
  by_cases E:q<bT
  ·have x:=mX Q E;have S:¬(q:Int)=1:=by omega
   simp[o,eT,x,S];refine⟨C,?_⟩;simp only[eT,x,List.map_cons,List.map_nil]at f i;refine c2 f ?_;simp;refine c1 i ?_;simp;omega
  ·have j:¬((aq bT q).length:Int)=1:=by
    intro h;have H:(aq bT q).length=1:=by omega
    have:=cj aY q;rw[H,g0]at this;exact E this
   simp[o,eT,j];refine⟨C,?_⟩;simp only[eT]at f i;refine c2 f ?_;simp;refine c1 i ?_;simp;omega
theorem SV{n:Int}{g:Nat}(a:0<g)(h:g∣n.natAbs):n.tdiv g=n/g:=by
 obtain⟨c,hc⟩:=b4.2 h;subst hc;rw[Int.mul_tdiv_cancel_left _ (by omega),bv _ (by omega)]
theorem MT(n d:Int)(O:d≠0)(U:n.natAbs<=4000000000000000000)(P:d.natAbs<=4000000000000000000):az prog 84 [.int .i64 n,.int .i64 d] (.str (bN (mB n d))):=by
 refine aO nf N9 mix (by simp[f84]) ?_;have f:¬n< -4000000000000000000:=by omega
 have i:¬4000000000000000000<n:=by omega
 have j:¬d< -4000000000000000000:=by omega
 have k:¬4000000000000000000<d:=by omega
 simp[f84,f,i,j,k,-bm];rw[bm];simp[f,i,j,k,-bm];rw[bm,bm];simp[f,i,j,k,-bm];refine join (fun st=>∃(b:Int)(d':Nat),0<d'/\b.natAbs<=4000000000000000000/\d'<=4000000000000000000/\mB b d'=mB n d/\aM st.env 0=.p (.int .i64 b)/\aM st.env 1=.p (.int .i64 (d':Nat))/\st.heap=[]) ?_ ?_
 ·have H:bk.wrap (-n)= -n:=aN _ (by omega) (by omega);have o:bk.wrap (-d)= -d:=aN _ (by omega) (by omega)
  by_cases h:d<0
  ·simp[h,H,o,f,i,j,k];refine⟨-n,d.natAbs,by omega,by omega,by omega,?_,rfl,?_⟩
   ·rw[br (by omega)];exact hb _ _
   ·rw[br (by omega)]
  ·have J:((d.natAbs:Nat):Int)=d:=cx (by omega);simp[h,f,i,j,k];exact⟨n,d.natAbs,by omega,by omega,by omega,by rw[J],rfl,by rw[J]⟩
 rintro⟨W,X⟩ ⟨b,d',k1,k2,k3,k4,r,s,K⟩;dsimp only at r s K;subst K;rw[<-k4,show mB b d'=g4 b d' from rfl];clear k4 U P O f i j k;obtain⟨x,D⟩:=ld (n:=b) (show d'≠0 by omega);obtain⟨g,l⟩:∃g,e7 b.natAbs d'=g:=⟨_,rfl⟩
 have F:0<g:=by rw[<-l];exact ew _ k1
 rw[l]at x D;have I:=WA b.natAbs d' (by omega) (by omega);rw[l]at I;have T:(if b< -b then -b else b)=(b.natAbs:Nat):=by split<;>omega
 have H:bk.wrap (-b)= -b:=aN _ (by omega) (by omega);have z:b.tdiv g=(g4 b d').num:=by rw[x,SV F (by rw[<-l];exact fl _ _)]
 have A:(d':Int).tdiv g=(d'/g:Nat):=by rw[b3 (b1 _),cc]
 have V:(g4 b d').num.natAbs<=4000000000000000000:=by
  have R:(g:Int)∣b:=by rw[<-l];exact b4.2 (fl _ _)
  obtain⟨c,hc⟩:=R;have S:(g:Int)≠0:=by omega
  rw[x,hc,bv _ S];rw[hc,bo,bl]at k2;exact en (Nat.le_mul_of_pos_left _ F) k2
 have Q:d'/g<=4000000000000000000:=en (gc _ _) k3;have ac:0<d'/g:=by
  refine gl ?_ F;rw[<-l];exact ga _ k1
 have M:bN (g4 b d')=if d'/g=1 then cQ (g4 b d').num else cQ (g4 b d').num++47::bp (d'/g):=by rw[bN,D]
 rw[M];clear M x D;generalize (g4 b d').num=a at*;generalize ad:d'/g=q at*;have y:¬g=0:=by omega
 have u:=wT a.natAbs 1 (by omega) (by decide);have E:=wT q 1 (by omega) (by decide);have Y:(bp a.natAbs).length<=19:=tT (e9 V (by decide)) (by decide);have Z:(bp q).length<=19:=tT (e9 Q (by decide)) (by decide);rw[show low (max 1 (nd a.natAbs)) a.natAbs=bp a.natAbs from rfl]at u;rw[show low (max 1 (nd q)) q=bp q from rfl]at E;have ab:(if a< -a then -a else a)=(a.natAbs:Nat):=by split<;>omega
 have o:bk.wrap (-a)= -a:=aN _ (by omega) (by omega);have B:bk.wrap a=a:=aN _ (by omega) (by omega);have C:bk.wrap (q:Int)=q:=aN _ (by omega) (by omega);simp[r,s,H,T];refine c2 I ?_;have L:(1:Int)<q↔¬q=1:=by omega
 have N:bk.wrap 1=1:=rfl;have aa:(bp a.natAbs).length<9223372036854775808:=by omega
 by_cases m:a<0
 ·have G:cQ a=45::bp a.natAbs:=by rw[cQ,if_pos m]
  rw[G];have w:a< -a:=by omega
  have v:-a=(a.natAbs:Nat):=by omega
  by_cases e:q=1
  ·simp[r,s,y,z,A,B,C,m,o,w,e];rw[v];refine c2 u ?_;simp[e,N];omega
  ·have t:=L.2 e;simp[r,s,y,z,A,B,C,m,o,w,e,t];rw[v];refine c2 u ?_;simp[e,t];refine⟨by omega,by omega,?_⟩;refine c2 E ?_;simp;omega
 ·have G:cQ a=bp a.natAbs:=by rw[cQ,if_neg m]
  rw[G];have v:a=(a.natAbs:Nat):=by omega
  have w:¬a< -a:=by omega
  by_cases e:q=1
  ·simp[r,s,y,z,A,B,C,m,o,w,e];rw[show PV.int .i64 a=.int .i64 (a.natAbs:Nat)by rw[<-v]];refine c2 u ?_;simp[e,N];omega
  ·have t:=L.2 e;simp[r,s,y,z,A,B,C,m,o,w,e,t];rw[show PV.int .i64 a=.int .i64 (a.natAbs:Nat)by rw[<-v]];refine c2 u ?_;simp[e,t];refine⟨by omega,by omega,?_⟩;refine c2 E ?_;simp;omega
theorem JY(n:Int)(a:-9223372036854775808<=n)(b:n<=9223372036854775807):az prog 39 [.int .i64 n] (.str (bN (n:Rat))):=by
 have e:=Lh n a b;have d:=BW n (by
  have c:n.natAbs<bT^3:=by
   have:bT^3=1000000000000000000000000000:=by decide
   omega
  have:=dK aY 3 _ c;omega)
 have hq:bN (n:Rat)=cQ n:=by rw[bN,if_pos (Rat.den_intCast n),Rat.num_intCast]
 rw[hq];refine aO nf NQ mix (by simp[f39]) ?_;simp[f39];refine c1 e ?_;simp;refine c1 d ?_;simp
theorem WI(s:List Nat)(C:(bD s).all cm=true)(J:(bK s).all cm=true)(hl:s.length<=1000000):
 ∃(n d:Int)(b:Bool),az prog 98 [.str s] (.aC [.int .i64 n,.int .i64 d,.bool b])/\(b=true->n=jA s/\d=(ic s:Nat)/\n.natAbs<1000000000/\ic s<1000000000):=by
 by_cases K:20<s.length
 ·refine⟨0,0,false,?_,fun h=>by cases h⟩;refine aO nf C4 mix (by simp[f98]) ?_;have m:(20:Int)<s.length:=by omega
  simp[f98,m]
 obtain⟨d,l⟩:∃d,cS s=d:=⟨_,rfl⟩
 obtain⟨neg,g⟩:∃neg,bV s=neg:=⟨_,rfl⟩
 have ai:d.length<=s.length:=by rw[<-l];exact(od s).1
 have i:=AQ d (by omega);have A:(bZ 47 d).1=bD s:=by rw[<-l];rfl
 have N:(bZ 47 d).2.1=bK s:=by rw[<-l];rfl
 have P:(bZ 47 d).2.2=dR s:=by rw[<-l];rfl
 have q:=oH 47 d;rw[A,N,P]at q;rw[A]at i;obtain⟨k,hk⟩:∃k,(bD s).length=k:=⟨_,rfl⟩
 rw[hk]at i;have Q:k<=d.length:=by rw[<-hk,<-A];exact(ov 47 d).1
 have m:¬(20:Int)<s.length:=by omega
 obtain⟨b,o⟩:∃b:Bool,b=(decide (k<=9)&&decide (d.length-k<=10)):=⟨_,rfl⟩
 have M:b=true->(jA s).natAbs<1000000000/\ic s<1000000000:=fun h=>by
  rw[o]at h;simp only[bb,decide_eq_true_eq]at h;have v:=jd _ (bD s) rfl C;rw[hk]at v;have ad:aW (bD s)<1000000000:=eo v (eq (n:=10) (by decide) h.1);refine⟨by rw[jA];split<;>omega,?_⟩;rcases q with⟨q1,f⟩|⟨q1,f,af⟩
  ·have W:(bK s).length<=9:=by
    have:=congrArg ea f;simp at this;omega
   have X:=jd _ (bK s) rfl J;rw[ic,if_pos q1];exact eo X (eq (n:=10) (by decide) W)
  ·rw[ic,q1,if_neg (by decide)];decide
 refine⟨if b=true then jA s else 0,if b=true then(ic s:Nat)else 0,b,?_,fun h=>⟨if_pos h,if_pos h,by rw[if_pos h];exact(M h).1,(M h).2⟩⟩;refine aO nf C4 mix (by simp[f98]) ?_;simp[f98,-bm];rw[bm];simp[-bm];rw[bm];simp[-bm];rw[bm,bm];simp[m,-bm];refine join (fun st=>aM st.env 5=.p (.str s)/\aM st.env 6=.p (.bool neg)/\st.heap=[]) ?_ ?_
 ·clear K m;cases s with
  |nil=>simp[<-g,bV]
  |cons c r=>
   by_cases hc:c=45
   ·simp[<-g,bV,hc]
   ·have aa:¬(c:Int)=45:=by omega
    simp[<-g,bV,hc,aa]
 rintro⟨U,ab⟩ ⟨e,a,u⟩;dsimp only at e a u;subst u;refine join (fun st=>aM st.env 5=.p (.str d)/\aM st.env 6=.p (.bool neg)/\st.heap=[]) ?_ ?_
 ·cases t:neg with
  |false=>
   have F:s=d:=by rw[<-l,cS,g,t];rfl
   simp[e,a,t,F]
  |true=>
   clear i q hk N A P K m o;cases s with
   |nil=>simp[bV]at g;rw[t]at g;cases g
   |cons c r=>
    have F:r=d:=by rw[<-l,cS,g,t];rfl
    simp[e,a,t,F]
 clear e a;rintro⟨U,ab⟩ ⟨e,a,u⟩;dsimp only at e a u;subst u;have ah:bk.wrap ((k:Int)+1)=(k:Int)+1:=aN _ (by omega) (by omega);have G:bk.wrap ((d.length:Int)-k)=(d.length:Int)-k:=aN _ (by omega) (by omega);have ag:((k:Int)+1).toNat=k+1:=by omega
 have ae:jA s=if neg=true then -(aW (bD s):Int)else aW (bD s):=by rw[jA,g]
 rw[ae];rcases fv 9 k with D|D
 ·have Y:¬k<=9:=by omega
  have j:(9:Int)<k:=by omega
  have E:b=false:=by rw[o];simp[Y]
  simp[e,a];refine c1 i ?_;simp[e,a,j,E]
 rcases fv 10 (d.length-k)with I|I
 ·have V:¬d.length-k<=10:=by omega
  have j:¬(9:Int)<k:=by omega
  have x:(10:Int)<(d.length:Int)-k:=by omega
  have E:b=false:=by rw[o];simp[V]
  simp[e,a];refine c1 i ?_;simp[e,a,j,x,G,E]
 have j:¬(9:Int)<k:=by omega
 have x:¬(10:Int)<(d.length:Int)-k:=by omega
 have y:b=true:=by rw[o];simp[D,I]
 have R:d.take k=bD s:=by
  rcases q with⟨_,f⟩|⟨_,f,_⟩
  ·rw[f,<-hk];simp
  ·rw[<-f,<-hk];simp
 have L:=xH (bD s) C (by omega);have v:=jd _ (bD s) rfl C;rw[hk]at v;have ad:aW (bD s)<1000000000:=eo v (eq (n:=10) (by decide) D);rcases q with⟨q1,f⟩|⟨q1,f,af⟩
 ·have z:k<d.length:=by rw[f];simp;omega
  have O:d.drop (k+1)=bK s:=by
   conv=>lhs;rw[f,<-hk]
   simp
  have aj:(bK s).length<=9:=by rw[<-O,dq];omega
  have Z:=xH (bK s) J (by omega);have B:ic s=aW (bK s):=by rw[ic,if_pos q1]
  rw[B];generalize aW (bK s)=ak at*;generalize aW (bD s)=w at*;have H:bk.wrap (-(w:Int))= -(w:Int):=aN _ (by omega) (by omega);clear f;simp[e,a];refine c1 i ?_;have S:(0:Int)<=k+1:=by omega
  have ac:k+1<=d.length:=z;have T:(k:Int)+1<=d.length:=by omega
  simp[e,a,j,x,G,y,Q,R];refine c1 L ?_;cases neg<;>
  ·simp[e,a,z,ac,ah,ag,O,S,T];refine c1 Z ?_;simp[a,H,y]
 ·have z:¬k<d.length:=by rw[<-f,hk];omega
  have B:ic s=1:=by rw[ic,q1];rfl
  rw[B];generalize aW (bD s)=w at*;have H:bk.wrap (-(w:Int))= -(w:Int):=aN _ (by omega) (by omega);simp[e,a];refine c1 i ?_;simp[e,a,j,x,G,y,Q,R];refine c1 L ?_;cases neg<;>simp[e,a,z,H,y]
theorem AB{n k:Nat}(h:n<2^k):(aq bT n).length<=k/29+1:=by
 refine dK aY _ _ (eo h ?_);have a:2^29<=bT:=by decide
 refine en ?_ (Nat.pow_le_pow_left a _);rw[<-gi];exact eq (by decide) (by omega)
theorem Kx(q:Rat):jA (bN q)=q.num:=by
 obtain⟨a,b,_,_⟩:=uh q;rw[jA,a,b,xl]
 by_cases h:q.num<0
 ·rw[if_pos (by simpa using h)];omega
 ·rw[if_neg (by simpa using h)];omega
theorem KQ(q:Rat):ic (bN q)=q.den:=by
 obtain⟨_,_,a,b⟩:=uh q;rw[ic,a,b]
 by_cases h:q.den=1
 ·rw[if_neg (by simpa using h),h]
 ·rw[if_pos (by simpa using h),if_neg h,xl]
theorem zl(q:Rat):(bD (bN q)).all cm=true/\(bK (bN q)).all cm=true:=by
 obtain⟨_,a,_,b⟩:=uh q;refine⟨by rw[a];exact uX _,?_⟩;rw[b];split
 ·rfl
 ·exact uX _
theorem wJ{q:Rat}(h:ch kB q):(bN q).length<=1000000:=by
 have a:(bp q.num.natAbs).length<=33334:=CK (K:=kB) (k:=33334) h.1 (by decide) (by decide);have b:(bp q.den).length<=33334:=CK (K:=kB) (k:=33334) h.2 (by decide) (by decide);have:=aCk q;omega
theorem xu(q:Rat)(h:ch kB q):∃(n d:Int)(b:Bool),az prog 98 [.str (bN q)] (.aC [.int .i64 n,.int .i64 d,.bool b])/\(b=true->n=q.num/\d=(q.den:Nat)/\n.natAbs<1000000000/\q.den<1000000000):=by
 have:=WI (bN q) (zl q).1 (zl q).2 (wJ h)
 rwa [Kx,KQ]at this
theorem wS(q:Rat)(h:ch kB q):az prog 96 [.str (bN q)] (.aC [eG q.num,eG (q.den:Nat)]):=by
 have:=JA (bN q) (zl q).1 (zl q).2 (wJ h)
 rwa [Kx,KQ]at this
theorem XB(a b:Rat):mB (a.num*b.den+b.num*a.den) (a.den*b.den)=a+b:=by
 rw[Rat.add_def'];rfl
theorem XC(a b:Rat):mB (a.num*b.num) (a.den*b.den)=a*b:=by
 rw[Rat.mul_def,Rat.normalize_eq_mkRat];rfl
theorem Mu(a b:Rat):((a.den:Nat):Int)*(b.den:Nat)≠0:=by
 have c:=a.den_pos;have d:=b.den_pos;exact Int.ne_of_gt (Int.mul_pos (by omega) (by omega))
theorem u4{x y:Int}(hx:x.natAbs<1000000000)(a:y.natAbs<1000000000):(x*y).natAbs<=999999998000000001:=by
 rw[bo];exact gt (show x.natAbs<=999999999 by omega) (show y.natAbs<=999999999 by omega)
theorem uc{x y:Int}(hx:x.natAbs<2^kB)(a:y.natAbs<2^kB):(aq bT (x*y).natAbs).length<=10000:=by
 have h:=AB (n:=(x*y).natAbs) (k:=kB+kB) (by rw[bo,gj];exact fI hx a);exact en h (by decide)
theorem ma{x:Nat}(hx:x<2^kB):(aq bT x).length<=10000:=en (AB hx) (by decide)
theorem Wd(a b:Rat)(h:ch kB a)(i:ch kB b):az prog 27 [.str (bN a),.str (bN b)] (.str (bN (a+b))):=by
 obtain⟨n,d,p,A,E⟩:=xu a h;obtain⟨m,e,r,B,F⟩:=xu b i;have t:=wS a h;have u:=wS b i;refine aO nf NL mix (by simp[f27]) ?_;rw[<-XB];have z:=Mu a b
 by_cases j:p=true/\r=true
 ·obtain⟨rfl,rfl,k1,k2⟩:=E j.1;obtain⟨rfl,rfl,k3,k4⟩:=F j.2;have O:=u4 k1 (show((b.den:Nat):Int).natAbs<1000000000 by rw[bl];exact k4);have P:=u4 k3 (show((a.den:Nat):Int).natAbs<1000000000 by rw[bl];exact k2);have Q:=u4 (show((a.den:Nat):Int).natAbs<1000000000 by rw[bl];exact k2) (show((b.den:Nat):Int).natAbs<1000000000 by rw[bl];exact k4);have C:=MT (a.num*b.den+b.num*a.den) (a.den*b.den) z (by omega) (by omega);have H:bk.wrap (a.num*(b.den:Nat))=a.num*(b.den:Nat):=aN _ (by omega) (by omega);have I:bk.wrap (b.num*(a.den:Nat))=b.num*(a.den:Nat):=aN _ (by omega) (by omega);have J:bk.wrap (a.num*(b.den:Nat)+b.num*(a.den:Nat))=a.num*(b.den:Nat)+b.num*(a.den:Nat):=aN _ (by omega) (by omega);have K:bk.wrap (((a.den:Nat):Int)*(b.den:Nat))=((a.den:Nat):Int)*(b.den:Nat):=aN _ (by omega) (by omega);have g:p=true:=j.1;have q:r=true:=j.2;simp[f27];refine c1 A ?_;simp;refine c1 B ?_;simp[g,q,H,I,J,K];refine c2 C ?_;simp
 ·have l:a.num.natAbs<2^kB:=h.1;have o:b.num.natAbs<2^kB:=i.1;have c:((a.den:Nat):Int).natAbs<2^kB:=by rw[bl];exact h.2
  have f:((b.den:Nat):Int).natAbs<2^kB:=by rw[bl];exact i.2
  have w:=uE a.num (b.den:Nat) (by have:=ma l;have:=ma f;omega);have x:=uE b.num (a.den:Nat) (by have:=ma o;have:=ma c;omega);have y:=uE (a.den:Nat) (b.den:Nat) (by have:=ma c;have:=ma f;omega);have L:=uc l f;have M:=uc o c;have N:=uc c f;have v:=WH (a.num*(b.den:Nat)) (b.num*(a.den:Nat)) (by omega) (by omega);have G:(aq bT (a.num*(b.den:Nat)+b.num*(a.den:Nat)).natAbs).length<=400000:=by
   refine en (AB (k:=kB+kB+1) ?_) (by decide);have q1:(a.num*(b.den:Nat)).natAbs<2^(kB+kB):=by rw[bo,gj];exact fI l f
   have R:(b.num*(a.den:Nat)).natAbs<2^(kB+kB):=by rw[bo,gj];exact fI o c
   rw[fm];omega
  have s:=Gn (a.num*(b.den:Nat)+b.num*(a.den:Nat)) ((a.den:Nat)*(b.den:Nat)) z G (by omega);simp[f27];refine c1 A ?_;simp;refine c1 B ?_;have D:(p=false)\/(p=true/\r=false):=by cases p<;>cases r<;>simp_all
  rcases D with g|⟨g,q⟩
  ·simp[g];refine c1 t ?_;simp[ad];refine c1 u ?_;simp[ad];refine e2 w ?_;simp[ad];refine e2 x ?_;simp[ad];refine e2 v ?_;simp[ad];refine e2 y ?_;simp[ad];refine e2 s ?_;simp
  ·simp[g,q];refine c1 t ?_;simp[ad];refine c1 u ?_;simp[ad];refine e2 w ?_;simp[ad];refine e2 x ?_;simp[ad];refine e2 v ?_;simp[ad];refine e2 y ?_;simp[ad];refine e2 s ?_;simp
theorem Iq(a b:Rat)(f:ch kB a)(g:ch kB b):az prog 110 [.str (bN a),.str (bN b)] (.str (bN (a*b))):=by
 obtain⟨n,d,p,x,B⟩:=xu a f;obtain⟨m,e,r,y,C⟩:=xu b g;have s:=wS a f;have t:=wS b g;refine aO nf ED mix (by simp[f110]) ?_;rw[<-XC];have w:=Mu a b
 by_cases h:p=true/\r=true
 ·obtain⟨rfl,rfl,k1,k2⟩:=B h.1;obtain⟨rfl,rfl,k3,k4⟩:=C h.2;have H:=u4 k1 k3;have I:=u4 (show((a.den:Nat):Int).natAbs<1000000000 by rw[bl];exact k2) (show((b.den:Nat):Int).natAbs<1000000000 by rw[bl];exact k4);have z:=MT (a.num*b.num) (a.den*b.den) w (by omega) (by omega);have D:bk.wrap (a.num*b.num)=a.num*b.num:=aN _ (by omega) (by omega);have E:bk.wrap (((a.den:Nat):Int)*(b.den:Nat))=((a.den:Nat):Int)*(b.den:Nat):=aN _ (by omega) (by omega);have c:p=true:=h.1;have i:r=true:=h.2;simp[f110];refine c1 x ?_;simp;refine c1 y ?_;simp[c,i,D,E];refine c2 z ?_;simp
 ·have j:a.num.natAbs<2^kB:=f.1;have l:b.num.natAbs<2^kB:=g.1;have k:((a.den:Nat):Int).natAbs<2^kB:=by rw[bl];exact f.2
  have o:((b.den:Nat):Int).natAbs<2^kB:=by rw[bl];exact g.2
  have u:=uE a.num b.num (by have:=ma j;have:=ma l;omega);have v:=uE (a.den:Nat) (b.den:Nat) (by have:=ma k;have:=ma o;omega);have F:=uc j l;have G:=uc k o;have q:=Gn (a.num*b.num) ((a.den:Nat)*(b.den:Nat)) w (by omega) (by omega);simp[f110];refine c1 x ?_;simp;refine c1 y ?_;have A:(p=false)\/(p=true/\r=false):=by cases p<;>cases r<;>simp_all
  rcases A with c|⟨c,i⟩
  ·simp[c];refine c1 s ?_;simp[ad];refine c1 t ?_;simp[ad];refine e2 u ?_;simp[ad];refine e2 v ?_;simp[ad];refine e2 q ?_;simp
  ·simp[c,i];refine c1 s ?_;simp[ad];refine c1 t ?_;simp[ad];refine e2 u ?_;simp[ad];refine e2 v ?_;simp[ad];refine e2 q ?_;simp
theorem azw{a:Rat}(h:a≠0):a.num≠0:=fun e=>h (Rat.num_eq_zero.1 e)
theorem Wl(s:List Nat)(hl:s.length<=1048576):az prog 26 [.str s] (.int .i64 (if s=[48]then 0 else if bV s=true then -1 else 1)):=by
 refine aO nf NK mix (by simp[f26]) ?_
 by_cases b:s=[48]
 ·simp[f26,b]
 ·cases s with
  |nil=>simp[f26,bV]
  |cons c r=>
   by_cases hc:c=45
   ·simp[f26,bV,hc]
   ·have e:¬(c:Int)=45:=by omega
    have d:¬(c=48/\r=[]):=fun h=>b (by rw[h.1,h.2])
    by_cases a:c=48
    ·have f:¬r=[]:=fun h=>d ⟨a,h⟩;simp[f26,bV,a,f]
    ·simp[f26,bV,hc,e,a]
theorem xa(q:Rat):q.num<0↔q<0:=by
 have h:=Ch q
 by_cases b:q<0
 ·rw[if_pos b]at h;refine⟨fun _=>b,fun _=>?_⟩
  by_cases a:q.num<0
  ·exact a
  ·rw[if_neg a]at h;split at h<;>omega
 ·refine⟨fun a=>?_,fun a=>(b a).elim⟩;rw[if_neg b,if_pos a]at h
  split at h<;>omega
def gO(q:Rat):Int:=if q<0 then -1 else if q=0 then 0 else 1
theorem aCr:bN 0=[48]:=by
 have h:cQ 0=[48]:=by rw[show(0:Int)=((0:Nat):Int)from rfl,tU,pD]
 rw[bN,if_pos (show(0:Rat).den=1 from rfl)];exact h
theorem QD(q:Rat):bN q=[48]↔q=0:=by
 rw[<-aCr];exact⟨fun h=>aCa h,fun h=>by rw[h]⟩
theorem aAL(q:Rat):(if bN q=[48]then(0:Int)else if bV (bN q)=true then -1 else 1)=gO q:=by
 have e:=(uh q).1;have c:=QD q;have d:q<0↔q.num<0:=(xa q).symm;rw[e,gO]
 by_cases b:q=0
 ·subst b;rw[if_pos (c.2 rfl),if_neg (by decide),if_pos rfl]
 ·rw[if_neg (fun h=>b (c.1 h))]
  by_cases a:q<0
  ·rw[if_pos (by simpa using d.1 a),if_pos a]
  ·rw[if_neg (by simpa using fun h=>a (d.2 h)),if_neg a,if_neg b]
theorem xJ(q:Rat)(h:ch kB q):az prog 26 [.str (bN q)] (.int .i64 (gO q)):=by
 have:=Wl (bN q) (by have:=wJ h;omega)
 rwa [aAL]at this
theorem Lq{q:Rat}(h:q<0):bN q=45::bN (-q):=by
 have a:q.num<0:=(xa q).2 h;have e1:cQ q.num=45::bp q.num.natAbs:=by rw[cQ,if_pos a]
 have e2:cQ (-q).num=bp q.num.natAbs:=by rw[hm,cQ,if_neg (by omega),b5]
 rw[bN,bN,Rat.neg_den,e1,e2]
 split<;>rfl
theorem Wg(q:Rat)(h:ch kB q):az prog 143 [.str (bN q)] (.str (bN (-q))):=by
 have a:=xJ q h;have f:=wJ h;refine aO nf FD mix (by simp[f143]) ?_
 by_cases b:q<0
 ·have hs:gO q= -1:=by rw[gO,if_pos b]
  rw[hs]at a;have c:=Lq b;rw[c]at a f⊢;simp[f143];refine c1 a ?_;simp
 ·by_cases d:q=0
  ·have hs:gO q=0:=by rw[gO,if_neg b,if_pos d]
   rw[hs]at a;have hq:-q=q:=by rw[d];rfl
   rw[hq];simp[f143];refine c1 a ?_;simp;refine c1 a ?_;simp
  ·have hs:gO q=1:=by rw[gO,if_neg b,if_neg d]
   rw[hs]at a;have e:-q<0:=by
    rw[<-xa,hm];have g:¬q.num<0:=fun h=>b ((xa q).1 h);have i:=azw d;omega
   have c:=Lq e;rw[Rat.neg_neg]at c;rw[c];have j:(bN q).length+1<9223372036854775808:=by omega
   simp[f143];refine c1 a ?_;simp;refine c1 a ?_;simp;omega
theorem xU(a b:Rat)(f:ch kB a)(d:ch kB b):az prog 111 [.str (bN a),.str (bN b)] (.str (bN (a-b))):=by
 have e:=Wg b d;have c:=Wd a (-b) f (AH d);rw[<-Rat.sub_eq_add_neg]at c;refine aO nf EC mix (by simp[f111]) ?_;simp[f111];refine c1 e ?_;simp;refine c2 c ?_;simp
theorem aAK(a b:Rat):gO (a-b)=dF a b:=by
 have d:a-b<0↔a<b:=by
  rw[<-hn,<-hn,<-Rat.le_iff_sub_nonneg]
 have e:a-b=0↔a=b:=by
  constructor
  ·intro h;have f:a-b+b=0+b:=by rw[h]
   rwa [g5,g7]at f
  ·rintro rfl;exact hj
 rw[gO,dF]
 by_cases h:a<b
 ·rw[if_pos (d.2 h),if_pos h]
 ·rw[if_neg (fun x=>h (d.1 x)),if_neg h]
  by_cases c:a=b
  ·rw[if_pos (e.2 c),if_pos c]
  ·rw[if_neg (fun x=>c (e.1 x)),if_neg c]
theorem tA(a b:Rat)(d:ch (kB/3) a)(e:ch (kB/3) b):az prog 134 [.str (bN a),.str (bN b)] (.int .i64 (dF a b)):=by
 have f:=xU a b (d.mono (by decide)) (e.mono (by decide));have c:=xJ (a-b) ((wC d e).mono (by decide));rw[aAK]at c;refine aO nf Fc mix (by simp[f134]) ?_;simp[f134];refine c2 f ?_;simp;refine c1 c ?_;simp
theorem MN{a b:Nat}(h:a<=b):10^a<=10^b:=eq (by decide) h
theorem yQ{s:List Nat}{k:Nat}(h:s.length<=k)(a:s.all cm=true):aW s<10^k:=eo (jd _ s rfl a) (MN h)
theorem azQ{x a b:Nat}(hx:x<10^a)(h:a<=9*b):(aq bT x).length<=b:=dK aY b x (eo hx (by
 rw[show bT^b=10^(9*b)by rw[gi];rfl];exact MN h))
theorem VE(s:List Nat)(hl:s.length<=1048576):az prog 193 [.str s] (.bool (s.all cm)):=by
 refine aO nf Em mix (by simp[f193]) ?_;obtain⟨k,hk,n,o⟩:=AZ (fun j=>cm (s[j]?.getD 0)) s.length;have e:∀j(h:j<s.length),s[j]?.getD 0=s[j]:=fun j h=>by rw[c9 h];rfl
 have B:s.all cm=decide (k=s.length):=by
  rcases o with h|⟨a,b⟩
  ·rw[h,decide_eq_true rfl,da];intro x hx;obtain⟨j,A,rfl⟩:=List.getElem_of_mem hx;have:=n j (by omega)
   rwa [e j A]at this
  ·rw[decide_eq_false (by omega)];rw[e k a]at b
   by_cases m:s.all cm=true
   ·have:=da.1 m _ (dk a);rw[this]at b;cases b
   ·simpa using m
 rw[B];simp[f193];refine lp (α:=Nat) (fun i=>⟨[(3,.p (.int .i64 i)),(0,.p (.str s))],[]⟩)
  (fun i=>i<=k) (fun i=>k-i) 0 (fd _) ?_
 intro i hi;have C:bk.wrap ((i:Int)+1)=(i:Int)+1:=aN _ (by omega) (by omega)
 by_cases y:i<k
 ·have l:i<s.length:=by omega
  have q:=n i y;rw[e i l]at q;have D:=xP q;generalize d:s[i]=c at*;have f:s[i]?=some c:=by rw[c9 l,d]
  have a:¬(c:Int)<48:=by omega
  have b:¬(57:Int)<c:=by omega
  have t:¬c<48:=by omega
  have u:¬57<c:=by omega
  simp[l,d,f,a,b,t,u,C];exact rd (i+1) (show i+1<=k by omega)
 ·have z:i=k:=by omega
  subst z;rcases o with h|⟨a,b⟩
  ·simp[h]
  ·rw[e i a]at b;have r:¬i=s.length:=by omega
   generalize d:s[i]=c at*;have f:s[i]?=some c:=by rw[c9 a,d]
   by_cases hc:c<48
   ·have g:(c:Int)<48:=by omega
    simp[a,d,f,hc,g,r]
   ·have v:57<c:=by
     simp only[cm,Bool.and_eq_false_iff,decide_eq_false_iff_not]at b;omega
    have g:¬(c:Int)<48:=by omega
    have w:(57:Int)<c:=by omega
    simp[a,d,f,hc,g,v,w,r]
theorem Ip(s:List Nat)(hl:s.length<=1048576):az prog 95 [.str s] (.bool (dE s)):=by
 have b:=VE s hl;refine aO nf Oh mix (by simp[f95]) ?_;cases s with
 |nil=>simp[f95,dE]
 |cons c r=>
  have j:(c:Int)=48↔c=48:=by omega
  by_cases a:r=[]
  ·subst a;have e:dE [c]=[c].all cm:=by
    rw[dE]
    by_cases h:c=48
    ·subst h;rfl
    ·simp[h]
   rw[e];simp[f95];refine c1 b ?_;simp
  ·have d:0<r.length:=dp.2 a;have f:¬(r.length:Int)+1=0:=by omega
   have g:(1:Int)<r.length+1:=by omega
   by_cases hc:c=48
   ·have e:dE (c::r)=false:=by rw[dE,hc];simp[a]
    rw[e];simp[f95,a,hc,d,f,g]
   ·have i:¬(c:Int)=48:=by omega
    have e:dE (c::r)=(c::r).all cm:=by rw[dE];simp[hc]
    rw[e];simp[f95,a,hc,i,d,f,g];refine c1 b ?_;simp
theorem yf(s:List Nat)(hs:iI s):az prog 25 [.str s] (.int .i64 (bY s)):=by
 refine aO nf NJ mix (by simp[f25]) ?_;obtain⟨hl,aL⟩:=hs;obtain⟨d,S⟩:∃d,cS s=d:=⟨_,rfl⟩
 obtain⟨neg,A⟩:∃neg,bV s=neg:=⟨_,rfl⟩
 have aS:d.length<=s.length:=by rw[<-S];exact(od s).1
 have T:=AQ d (by omega);have Y:(bZ 47 d).1=bD s:=by rw[<-S];rfl
 have W:(bZ 47 d).2.1=bK s:=by rw[<-S];rfl
 have ah:(bZ 47 d).2.2=dR s:=by rw[<-S];rfl
 have z:=oH 47 d;have F:=ov 47 d;rw[Y,W,ah]at z;rw[Y]at T F;rw[W]at F;obtain⟨k,hk⟩:∃k,(bD s).length=k:=⟨_,rfl⟩
 rw[hk]at T;have J:k<=d.length:=by rw[<-hk];exact F.1
 have aw:d.take k=bD s:=by
  rcases z with⟨_,G⟩|⟨_,G,_⟩
  ·rw[G,<-hk];simp
  ·rw[<-G,<-hk];simp
 have M:=Ip (bD s) (by omega);have l:=Ip (bK s) (by omega);simp[f25,-bm];rw[bm];simp[-bm];rw[bm];simp[-bm];refine join (fun st=>aM st.env 0=.p (.str s)/\aM st.env 3=.p (.str d)/\st.heap=[]) ?_ ?_
 ·cases aj:neg with
  |false=>
   have av:s=d:=by rw[<-S,cS,A,aj];rfl
   clear T z hk W Y ah aw M l F J;subst av;cases s with
   |nil=>simp
   |cons c r=>
    rw[aj]at A;have hc:¬c=45:=fun h=>by rw[h]at A;simp[bV]at A
    have an:¬(c:Int)=45:=by omega
    simp[hc,an]
  |true=>
   clear T z hk W Y ah aw M l F J;cases s with
   |nil=>simp[bV]at A;rw[aj]at A;cases A
   |cons c r=>
    have av:r=d:=by rw[<-S,cS,A,aj];rfl
    rw[aj]at A;have hc:c=45:=by simpa[bV]using A
    simp[hc,av]
 rintro⟨aH,aV⟩ ⟨w,e,ak⟩;dsimp only at w e ak;subst ak;have ag:kI s=(dE (bD s)&&!(neg&&decide (bD s=[48]))&&(!dR s||(dE (bK s)&&decide (bK s≠[48])&&decide (bK s≠[49])))):=by rw[kI,A]
 have a7:d.length<=1048576:=by omega
 have V:(bD s).all cm=true->(bK s).all cm=true->dR s=true->0<k->d.length<=1000000->az prog 96 [.str d] (.aC [eG (aW (bD s):Nat),eG (aW (bK s):Nat)]):=fun y O ax aD a0=>by
  have al:bV d=false/\cS d=d:=by
   have aG:bV d=false:=by
    rcases z with⟨_,G⟩|⟨q1,_⟩
    ·cases X:bD s with
     |nil=>rw[X]at hk;simp at hk;omega
     |cons c r=>
      rw[X]at G y;have:=xP (da.1 y c (by simp));rw[G,bV];simp;omega
    ·rw[ax]at q1;cases q1
   exact⟨aG,by rw[cS,aG];rfl⟩
  have e1:bD d=bD s:=by rw[bD,al.2,Y]
  have e2:bK d=bK s:=by rw[bK,al.2,W]
  have e3:dR d=true:=by rw[dR,al.2,ah];exact ax
  have:=JA d (by rw[e1];exact y) (by rw[e2];exact O) a0;rw[jA,ic,e1,e2,al.1,if_pos e3]at this;exact this
 rw[bY];generalize kI s=N at*;generalize bD s=v at*;generalize bK s=f at*;generalize dR s=fr at*;have U:dl k d=v:=aw
 by_cases K:dE v=true
 ·have aD:0<k:=by
   rw[<-hk,dp];intro h;rw[h]at K;cases K
  obtain⟨c,r,hs⟩:∃c r,s=c::r:=by
   cases s with
   |nil=>
    have:d.length<=0:=by simpa using aS
    omega
   |cons c r=>exact⟨c,r,rfl⟩
  have ao:c=45↔neg=true:=by rw[<-A,hs];simp[bV]
  have an:(c:Int)=45↔c=45:=by omega
  rw[K]at M;clear aL hl S A Y W ah
  by_cases P:neg=true/\v=[48]
  ·have hf:N=false:=by rw[ag,P.1,P.2];simp
   have aR:=ao.2 P.1;rw[if_pos hf];clear z F l V ao an;subst hs aR;have X:=P.2;simp[w,e];refine c1 T ?_;simp[w,e,J,U];refine c1 M ?_;simp[w,e,J,U,X]
  ·subst hs;rw[bm];simp[w,e,-bm];refine c1 T ?_;simp[w,e,-bm];refine join (fun st=>aM st.env 3=.p (.str d)/\aM st.env 4=.p (.int .i64 k)/\st.heap=[]) ?_ ?_
   ·by_cases y:c=45
    ·have X:¬v=[48]:=fun h=>P ⟨ao.1 y,h⟩;subst y;clear z F l V;simp[w,e,J,U];refine c1 M ?_;simp[w,e,J,U,X]
    ·have aI:¬(c:Int)=45:=by omega
     clear z F l V;simp[w,e,J,U];refine c1 M ?_;simp[w,e,J,U,y,aI]
   clear w e;rintro⟨aH,aV⟩ ⟨e,j,ak⟩;dsimp only at e j ak;subst ak;cases ai:fr with
   |false=>
    have i:k=d.length:=by
     rcases z with⟨q1,_⟩|⟨_,G,_⟩
     ·rw[ai]at q1;cases q1
     ·rw[<-hk,G]
    have aE:¬k<d.length:=by omega
    have aT:f=[]:=by
     rcases z with⟨q1,_⟩|⟨_,_,a4⟩
     ·rw[ai]at q1;cases q1
     ·exact a4
    have hf:N=true:=by
     rw[ag,K,ai];simp
     by_cases y:neg=true
     ·exact .inr fun O=>P ⟨y,O⟩
     ·exact .inl (by simpa using y)
    have Z:bk.wrap ((d.length:Int)-k)=0:=by rw[i,Int.sub_self];rfl
    have aa:bk.wrap (-1)= -1:=rfl;rw[hf,hk,aT];clear z F l V
    by_cases I:600<k
    ·have B:¬(k:Int)<=600:=by omega
     have C:¬k<=600:=by omega
     have D:(600:Int)<k:=by omega
     simp[e,j,aE,I,B,C,D]
    ·have B:(k:Int)<=600:=by omega
     have C:k<=600:=by omega
     have D:¬(600:Int)<k:=by omega
     simp[e,j,aE,I,B,C,D,Z,aa]
   |true=>
    rw[ai]at ag V;have au:d=v++47::f:=by
     rcases z with⟨_,G⟩|⟨q1,_⟩
     ·exact G
     ·rw[ai]at q1;cases q1
    have i:k<d.length:=by rw[au];simp;omega
    have q:d.drop (k+1)=f:=by
     conv=>lhs;rw[au,<-hk]
     simp
    have a8:d.length=k+1+f.length:=by rw[au];simp;omega
    have u:bk.wrap ((k:Int)+1)=(k:Int)+1:=aN _ (by omega) (by omega);have t:((k:Int)+1).toNat=k+1:=by omega
    have m:(0:Int)<=k+1:=by omega
    have n:(k:Int)+1<=d.length:=by omega
    have o:k+1<=d.length:=i;clear z F;have af:N=(dE f&&decide (f≠[48])&&decide (f≠[49])):=by
     rw[ag,K];have:(neg&&decide (v=[48]))=false:=by
      by_cases y:neg=true
      ·have:¬v=[48]:=fun O=>P ⟨y,O⟩;simp[this]
      ·have:neg=false:=by simpa using y
       rw[this];rfl
     rw[this];simp
    by_cases ap:N=true
    ·rw[ap]at af;have aX:¬N=false:=by rw[ap];decide
     rw[if_neg aX];have aK:dE f=true/\¬f=[48]/\¬f=[49]:=by
      have:=af.symm;simp only[bb,decide_eq_true_eq]at this;exact⟨this.1.1,this.1.2,this.2⟩
     obtain⟨L,H,E⟩:=aK;rw[L]at l;rw[hk];have Z:bk.wrap ((d.length:Int)-k)=(d.length:Int)-k:=aN _ (by omega) (by omega);have aa:bk.wrap ((d.length:Int)-k-1)=f.length:=by rw[aN _ (by omega) (by omega)];omega
     by_cases I:600<k
     ·have B:¬(k:Int)<=600:=by omega
      have C:¬k<=600:=by omega
      have D:(600:Int)<k:=by omega
      simp[e,j,i,u,t,m,n,o,q];refine c1 l ?_;simp[e,j,i,u,t,m,n,o,q,H,E,I,B,C,D]
     by_cases ab:600<f.length
     ·have B:(k:Int)<=600:=by omega
      have C:k<=600:=by omega
      have D:¬(600:Int)<k:=by omega
      have ac:(600:Int)<f.length:=by omega
      simp[e,j,i,u,t,m,n,o,q];refine c1 l ?_;simp[e,j,i,u,t,m,n,o,q,H,E,I,B,C,D,Z,aa,ab,ac]
     have B:(k:Int)<=600:=by omega
     have C:k<=600:=by omega
     have D:¬(600:Int)<k:=by omega
     have ac:¬(600:Int)<f.length:=by omega
     have R:=V (iR K) (iR L) rfl aD (by omega);have aU:=xm L H;have a2:v.length<=700:=by omega
     have a3:f.length<=700:=by omega
     have aP:aW v<10^700:=yQ (s:=v) (k:=700) a2 (iR K);have aQ:aW f<10^700:=yQ (s:=f) (k:=700) a3 (iR L);have aF:∀x:Nat,x<10^700->(aq bT x).length<=400000:=fun x hx=>en (azQ (a:=700) (b:=78) hx (by decide)) (by decide);have Q:=Je (aW v) (aW f) (aF _ aP) (aF _ aQ);have aB:0<e7 (aW v) (aW f):=ew _ aU;generalize aW v=a6 at*;generalize aW f=a5 at*;obtain⟨g,am⟩:∃g,e7 a6 a5=g:=⟨_,rfl⟩
     simp only[am]at Q aB⊢;have a1:¬(600<k\/600<f.length):=fun h=>by rcases h with h|h;exact I h;exact ab h
     rw[if_neg a1];simp only[eG,bl]at R
     by_cases ar:g=1
     ·subst ar;have ae:aq bT 1=[1]:=mX (by decide) (by decide);simp only[eT,ae]at Q R;simp[e,j,i,u,t,m,n,o,q];refine c1 l ?_;simp[e,j,i,u,t,m,n,o,q,H,E,I,B,C,D,Z,aa,ab,ac];refine c1 R ?_;simp[ad];refine c2 Q ?_;simp[am]
     ·by_cases aC:g<bT
      ·have ae:aq bT g=[g]:=mX aB aC;have aZ:¬(g:Int)=1:=by omega
       simp only[eT,ae]at Q R;simp[e,j,i,u,t,m,n,o,q];refine c1 l ?_;simp[e,j,i,u,t,m,n,o,q,H,E,I,B,C,D,Z,aa,ab,ac];refine c1 R ?_;simp[ad];refine c2 Q ?_;simp[ar,aZ,am]
      ·have ae:¬((aq bT g).length:Int)=1:=by
        intro h;have O:(aq bT g).length=1:=by omega
        have:=cj aY g;rw[O,g0]at this;exact aC this
       simp only[eT]at Q R;simp[e,j,i,u,t,m,n,o,q];refine c1 l ?_;simp[e,j,i,u,t,m,n,o,q,H,E,I,B,C,D,Z,aa,ab,ac];refine c1 R ?_;simp[ad];refine c2 Q ?_;simp[ar,ae,am]
    ·have aA:N=false:=by simpa using ap
     rw[if_pos aA]
     by_cases L:dE f=true
     ·rw[L]at l
      by_cases H:f=[48]
      ·simp[e,j,i,u,t,m,n,o,q];refine c1 l ?_;simp[e,j,i,u,t,m,n,o,q,H]
      ·have E:f=[49]:=by
        rw[L]at af
        by_cases E:f=[49]
        ·exact E
        ·rw[aA]at af;simp[H,E]at af
       simp[e,j,i,u,t,m,n,o,q];refine c1 l ?_;simp[e,j,i,u,t,m,n,o,q,E]
     ·have aJ:dE f=false:=by simpa using L
      rw[aJ]at l;simp[e,j,i,u,t,m,n,o,q];refine c1 l ?_;simp[e,j,i,u,t,m,n,o,q]
 ·have ay:dE v=false:=by simpa using K
  have hf:N=false:=by rw[ag,ay];rfl
  rw[if_pos hf];rw[ay]at M;simp[w,e];refine c1 T ?_;simp[w,e,J,U];refine c1 M ?_;simp[w,e]
theorem Si(l:List (List Nat))(hl:l.length<=1000000)(hs:∀s∈l,iI s):az prog 103 [.seq (l.map .str)] (.int .i64 (bG (l.map bY))):=by
 refine aO nf Ee mix (by simp[f103]) ?_;simp[f103];refine lp (α:=Nat) (fun i=>⟨[(3,.p (.int .i64 i)),(0,.p (.seq (l.map .str)))],[]⟩) (fun i=>i<=l.length/\bG ((l.drop i).map bY)=bG (l.map bY)) (fun i=>l.length-i) 0 (by simp) ?_;rintro i ⟨e,a⟩
 by_cases hi:i<l.length
 ·rw[List.drop_eq_getElem_cons hi]at a;have d:=cJ (i:=i) (by omega);have hc:=yf l[i] (hs _ (dk hi));obtain⟨s,b⟩:∃s,l[i]=s:=⟨_,rfl⟩
  have c:l[i]?=some s:=by rw[c9 hi,b]
  rw[b]at hc a;simp[hi,c,b];refine c1 hc ?_
  by_cases he:bY s=0
  ·simp[bG,he]at a;simp[he,d];exact rd (i+1) ⟨hi,by simpa using a⟩
  ·simp[bG,he]at a;simp[he,<-a]
 ·have:i=l.length:=by omega
  subst this;simp[bG]at a;simp[<-a]
theorem Qv(p:gW)(a:qS p):az prog 31 [fR p] (.int .i64 (gd p)):=by
 have hc:=Si [p.x,p.y] (by simp) (by intro s hs;simp at hs;rcases hs with rfl|rfl;exact a.1;exact a.2);refine aO nf NO mix (by simp[f31]) ?_;simp[f31,ad];refine cp hc (by simp;exact⟨rfl,rfl⟩) ?_;simp[gd]
structure V2 where
 x:Rat
 y:Rat
def eV(v:V2):PV:=fR ⟨bN v.x,bN v.y⟩
@[simp] theorem aHo(v:V2):aL (eV v)=.agg 46:=rfl
@[simp] theorem aFC(v:V2):cE (eV v)=[.str (bN v.x),.str (bN v.y)]:=rfl
theorem Ni(x y:Rat):eV ⟨x,y⟩=.st 46 [.str (bN x),.str (bN y)]:=rfl
def eS(k:Nat)(v:V2):Prop:=ch k v.x/\ch k v.y
theorem eS.mono{k l:Nat}{v:V2}(h:eS k v)(hl:k<=l):eS l v:=⟨h.1.mono hl,h.2.mono hl⟩
def V2.sub(v w:V2):V2:=⟨v.x-w.x,v.y-w.y⟩
def V2.add(v w:V2):V2:=⟨v.x+w.x,v.y+w.y⟩
def V2.mul(v:V2)(k:Rat):V2:=⟨v.x*k,v.y*k⟩
def V2.dot(v w:V2):Rat:=v.x*w.x+v.y*w.y
def V2.iA(v w:V2):Rat:=v.x*w.y-v.y*w.x
theorem uZ{k l:Nat}{v w:V2}(h:eS k v)(a:eS l w):eS (k+l+1) (v.sub w):=⟨wC h.1 a.1,wC h.2 a.2⟩
theorem Pq{k l:Nat}{v w:V2}(h:eS k v)(a:eS l w):ch (k+l+(k+l)+1) (v.iA w):=wC (rz h.1 a.2) (rz h.2 a.1)
def kQ:Nat:=20000
theorem iY{q:Rat}(h:ch kQ q):ch kB q:=h.mono (by decide)
theorem ML(v w:V2)(a:eS kQ v)(b:eS kQ w):az prog 38 [eV v,eV w] (eV (v.sub w)):=by
 have c:=xU v.x w.x (iY a.1) (iY b.1);have d:=xU v.y w.y (iY a.2) (iY b.2);refine aO nf NP mix (by simp[f38]) ?_;rw[V2.sub,Ni];simp[f38,ad];refine e2 c ?_;simp[ad];refine e2 d ?_;simp[ad]
theorem Ps(v w:V2)(a:eS kQ v)(b:eS kQ w):az prog 182 [eV v,eV w] (.str (bN (v.iA w))):=by
 have c:=Iq v.x w.y (iY a.1) (iY b.2);have d:=Iq v.y w.x (iY a.2) (iY b.1);have e:=xU (v.x*w.y) (v.y*w.x) ((rz a.1 b.2).mono (by decide)) ((rz a.2 b.1).mono (by decide));refine aO nf Es mix (by simp[f182]) ?_;rw[V2.iA];simp[f182,ad];refine e2 c ?_;simp[ad];refine e2 d ?_;simp[ad];refine e2 e ?_;simp
structure S3 where
 a:Rat
 b:Rat
 d:Rat
theorem Lb:prog.stoodInHeld 47=false:=by kernel_rfl
def vt(k:Nat)(s:S3):Prop:=ch k s.a/\ch k s.b/\ch k s.d
theorem vt.mono{k l:Nat}{s:S3}(h:vt k s)(hl:k<=l):vt l s:=⟨h.1.mono hl,h.2.1.mono hl,h.2.2.mono hl⟩
def S3.add(s t:S3):S3:=⟨s.a+t.a,s.b+t.b,s.d⟩
def S3.mul(s t:S3):S3:=⟨s.a*t.a+s.b*t.b*s.d,s.a*t.b+t.a*s.b,s.d⟩
def S3.times(x:Rat)(s:S3):S3:=⟨x*s.a,x*s.b,s.d⟩
def kS:Nat:=8000
structure P4 where
 x:S3
 y:S3
def Dd(k:Nat)(p:P4):Prop:=vt k p.x/\vt k p.y
theorem Dd.mono{k l:Nat}{p:P4}(h:Dd k p)(hl:k<=l):Dd l p:=⟨h.1.mono hl,h.2.mono hl⟩
def P4.dot(v:V2)(p:P4):S3:=(S3.times v.x p.x).add (S3.times v.y p.y)
def sg3(a b o:Int):Int:=if 0<=a*b then(if a=0 then b else a)else a*o
def sgS(s:S3):Int:=sg3 (gO s.a) (gO s.b*gO s.d) (dF (s.a*s.a) (s.b*s.b*s.d))
namespace Hk
def jU:Nat:=9223372036854775808
def xZ:Nat:=1606938044258990275541962092341162602522202993782792835301376
def o7{α:Type}(n:Nat)(f:Nat->α):α:=match n with
 |0=>f 0
 |k+1=>f (k+1)
theorem uL{α:Type}(n:Nat)(f:Nat->α):o7 n f=f n:=by cases n<;>rfl
def yX{α:Type}(z:Int)(f:Int->α):α:=match z with
 | .ofNat n=>o7 n fun n=>f (.ofNat n)
 | .negSucc n=>o7 n fun n=>f (.negSucc n)
theorem KL{α:Type}(z:Int)(f:Int->α):yX z f=f z:=by cases z<;>simp[yX,uL]
def nO:Int->Bool
 | .ofNat n=>e8 n jU
 | .negSucc n=>e8 (n+1) jU
theorem xV{z:Int}:nO z=true↔z.natAbs<9223372036854775808:=by
 cases z with
 |ofNat n=>simp only[nO,fb,jU];exact Iff.rfl
 |negSucc n=>simp only[nO,fb,jU];exact Iff.rfl
def nJ:Int->Int->Bool
 | .ofNat a,.ofNat b=>em a b
 | .negSucc a,.negSucc b=>em a b
 |_,_=>false
theorem yk:∀{a b:Int},nJ a b=true->a=b
 | .ofNat a,.ofNat b,h=>by simp only[nJ]at h;rw[ej h]
 | .negSucc a,.negSucc b,h=>by simp only[nJ]at h;rw[ej h]
 | .ofNat a,.negSucc b,h=>by simp[nJ]at h
 | .negSucc a,.ofNat b,h=>by simp[nJ]at h
def sS(z:Int):Option PV:=bif nO z then some (eJ z)else bif em z.natAbs jU then none else some (jT z)
theorem xG{z:Int}{p:PV}(h:sS z=some p)(m:Bool):eI ⟨z,m⟩=p:=by
 unfold sS at h;rw[iN];rcases hs:nO z with _|_
 ·simp only[hs,cond_false]at h;rcases a:em z.natAbs jU with _|_
  case true=>rw[a]at h;cases h
  ·have c:¬em z.natAbs jU=true:=by rw[a];decide
   rw[a,cond_false]at h;simp only[g3]at h;have b:¬z.natAbs<9223372036854775808:=fun h=>by rw[xV.2 h]at hs;cases hs
   have d:z.natAbs≠9223372036854775808:=fun e=>c (by rw[e];rfl);rw[if_neg,h];simp only[NI.sm,bi,decide_eq_true_eq,bb,not_or,not_and];exact⟨by omega,fun h=>by omega⟩
 ·simp only[hs,cond_true,g3]at h;have b:=xV.1 hs;rw[if_pos,h];simp only[NI.sm,bi,decide_eq_true_eq,bb];exact .inl (by omega)
def vA:List PV->Option (List Nat)
 |[]=>some []
 | .int .u64 (.ofNat x)::r=>match vA r with
  |some l=>some (x::l)
  |none=>none
 |_=>none
theorem Ly:∀{l:List PV}{a:List Nat},vA l=some a->l=a.map fun x:Nat=>PV.int .u64 x
 |[],a,h=>by simp only[vA,g3]at h;subst h;rfl
 |v::r,a,h=>by
  unfold vA at h
  split at h
  ·rename_i e;cases e
  ·rename_i x b e;cases e
   split at h
   ·rename_i l hl;simp only[g3]at h;subst h;rw[Ly hl];rfl
   ·cases h
  ·cases h
def qX:List Nat->List Nat->Bool
 |[],[]=>true
 |x::a,y::b=>bif em x y then qX a b else false
 |_,_=>false
theorem Bx:∀{a b:List Nat},qX a b=true->a=b
 |[],[],_=>rfl
 |[],_::_,h=>by simp[qX]at h
 |_::_,[],h=>by simp[qX]at h
 |x::a,y::b,h=>by
  simp only[qX,a9]at h
  split at h
  ·rename_i hx;rw[ej hx,Bx h]
  ·cases h
def yV:PV->Option Int
 | .st u [.int .i64 z,.aG]=>bif em u 129 then(bif nO z then some z else none)else none
 | .st u [.int .i64 s,.seq l]=>match vA l with
  |some a=>o7 (iy wB a) fun n=>bif em u 129&&(e8 jU n&&qX (aq wB n) a)then
   (bif nJ s 1 then some (.ofNat n)else bif nJ s (-1)then some (.negSucc (n-1))else none)else none
  |none=>none
 |_=>none
theorem KR{p:PV}{z:Int}(h:yV p=some z):p=eI ⟨z,false⟩:=by
 unfold yV at h
 split at h
 ·rename_i u y;simp only[a9]at h
  split at h
  ·rename_i f
   split at h
   ·rename_i hs;simp only[g3]at h;subst h;rw[ej f];exact(xG (by rw[sS,hs];rfl) false).symm
   ·cases h
  ·cases h
 ·rename_i u s l
  split at h
  ·rename_i g e;rw[uL]at h;have hl:=Ly e;generalize iy wB g=n at h;simp only[a9]at h
   split at h
   ·rename_i hc;simp only[bb,fb]at hc;obtain⟨b,i,c⟩:=hc;have d:=Bx c;have j:jU=9223372036854775808:=rfl;rw[ej b,hl,<-d];have key:∀z:Int,z.natAbs=n->eI ⟨z,false⟩=jT z:=fun z k=>by
     refine xG ?_ false;have e1:nO z=false:=by
      rcases a:nO z with _|_
      ·rfl
      ·have:=xV.1 a;omega
     have e2:em z.natAbs jU=false:=by
      rcases a:em z.natAbs jU with _|_
      ·rfl
      ·have:=ej a;omega
     rw[sS,e1,e2];rfl
    split at h
    ·rename_i hs;simp only[g3]at h;subst h;rw[yk hs,key _ rfl,jT,if_neg (by show¬((n:Int)<0);omega)];rfl
    ·split at h
     ·rename_i hs;simp only[g3]at h;subst h;rw[yk hs,key _ (by show n-1+1=n;omega),jT,if_pos (by omega)];have:(cv (n-1)).natAbs=n:=by show n-1+1=n;omega
      rw[this];rfl
     ·cases h
   ·cases h
  ·cases h
 ·cases h
def Df(n:Int)(d:Nat):Bool:=e8 0 d&&(e8 n.natAbs xZ&&(e8 d xZ&&em (e7 n.natAbs d) 1))
def o5:PV->Option (Int×Nat)
 | .st u [a,b]=>match yV a,yV b with
  |some n,some (.ofNat d)=>bif em u 131&&Df n d then some (n,d)else none
  |_,_=>none
 |_=>none
def fr(n:Int)(d:Nat):NF:=⟨g4 n d,false⟩
theorem Tf:xZ=2^200:=by decide
theorem BC{p:PV}{n:Int}{d:Nat}(h:o5 p=some (n,d)):p=eF (fr n d)/\d≠0/\ch kB (fr n d).q:=by
 unfold o5 at h
 split at h
 case h_2=>cases h
 rename_i u a b
 split at h
 case h_2=>cases h
 rename_i c d' j k;simp only[a9]at h
 split at h
 case isFalse=>cases h
 rename_i hc;simp only[g3,Prod.mk.injEq]at h;obtain⟨rfl,rfl⟩:=h;simp only[Df,bb,fb]at hc;obtain⟨c1,c2,c3,c4,c5⟩:=hc;have f:=ej c5;have e:d'≠0:=by omega
 obtain⟨e1,e2⟩:=ld (n:=c) e;rw[f]at e1 e2;simp only[cy,c6,gb]at e1 e2;rw[Tf]at c3 c4;refine⟨?_,e,(Bk e c3 c4).mono (by decide)⟩;rw[ej c1,KR j,KR k,eF];have g:(fr c d').num=⟨c,false⟩:=by rw[NF.num,fr,e1]
 have i:(fr c d').den=⟨(d':Int),false⟩:=by rw[NF.den,fr,e2];rfl
 rw[g,i];rfl
def mC(n:Int)(d:Nat):Option PV:=
 o7 (e7 n.natAbs d) fun g=>yX (n/g) fun n=>o7 (d/g) fun d=>match sS n,sS (.ofNat d)with
  |some a,some b=>some (.st 131 [a,b])
  |_,_=>none
theorem oG{n:Int}{d:Nat}{p:PV}(i:d≠0)(h:mC n d=some p)(m:Bool):p=eF ⟨g4 n d,m⟩:=by
 obtain⟨e1,e2⟩:=ld (n:=n) i;simp only[mC,uL,KL]at h
 split at h
 case h_2=>cases h
 rename_i a b f g;simp only[g3]at h;subst h;rw[eF];have c:(NF.num ⟨g4 n d,m⟩)=⟨n/(e7 n.natAbs d:Nat),m⟩:=by rw[NF.num,e1]
 have e:(NF.den ⟨g4 n d,m⟩)=⟨((d/e7 n.natAbs d:Nat):Int),false⟩:=by rw[NF.den,e2];rfl
 rw[c,e,xG f,<-xG g false];rfl
def two(op:Int->Nat->Int->Nat->Option PV)(a b:PV):Option PV:=match o5 a,o5 b with
 |some (n,d),some (m,e)=>op n d m e
 |_,_=>none
theorem uP{op:Int->Nat->Int->Nat->Option PV}{a b p:PV}(h:two op a b=some p):
 ∃n d m e,a=eF (fr n d)/\b=eF (fr m e)/\d≠0/\e≠0/\ch kB (fr n d).q/\ch kB (fr m e).q/\op n d m e=some p:=by
 unfold two at h
 split at h
 case h_2=>cases h
 rename_i n d m e j k;obtain⟨c,a2,a3⟩:=BC j;obtain⟨f,g,i⟩:=BC k;exact⟨n,d,m,e,c,f,a2,g,a3,i,h⟩
def Ot(n:Int)(d:Nat)(m:Int)(e:Nat):Option PV:=mC (n*e+m*d) (d*e)
def Ov(n:Int)(d:Nat)(m:Int)(e:Nat):Option PV:=mC (n*e-m*d) (d*e)
def Ou(n:Int)(d:Nat)(m:Int)(e:Nat):Option PV:=mC (n*m) (d*e)
def zk:Int->Int
 | .ofNat n=>bif em n 0 then 0 else 1
 | .negSucc _=>-1
theorem J8(z:Int):zk z=if z<0 then -1 else if z=0 then 0 else 1:=by
 cases z with
 |ofNat n=>
  rw[if_neg (by simp)];cases n with
  |zero=>rfl
  |succ n=>rw[if_neg (by simp;omega)];rfl
 |negSucc n=>rw[if_pos (by omega)];rfl
def Dc(n:Int)(d:Nat)(m:Int)(e:Nat):Option PV:=some (.int .i64 (zk (n*e-m*d)))
def za(n:Int)(d:Nat)(m:Int)(e:Nat):Option PV:=match m with
 | .ofNat k=>bif em k 0 then none else mC (n*e) (d*k)
 | .negSucc k=>mC (-(n*e)) (d*(k+1))
theorem sQ{d:Nat}(h:d≠0):(d:Int)≠0:=by omega
theorem WC{n m:Int}{d e:Nat}{p:PV}(a:d≠0)(b:e≠0)(h:Ot n d m e=some p):p=eF ((fr n d).add (fr m e)):=by
 rw[NF.add,fr,fr];dsimp only;rw[g9 _ _ (sQ a) (sQ b)];have:=oG (e6 a b) h;rw[b0]at this;exact this _
theorem WG{n m:Int}{d e:Nat}{p:PV}(a:d≠0)(b:e≠0)(h:Ov n d m e=some p):p=eF ((fr n d).sub (fr m e)):=by
 rw[NF.sub,NF.add,NF.neg,fr,fr];dsimp only;rw[hd,g9 _ _ (sQ a) (sQ b)];have:=oG (e6 a b) h;rw[b0]at this;rw[Int.neg_mul,<-Int.sub_eq_add_neg];exact this _
theorem WE{n m:Int}{d e:Nat}{p:PV}(a:d≠0)(b:e≠0)(h:Ou n d m e=some p):p=eF ((fr n d).mul (fr m e)):=by
 rw[NF.mul,fr,fr];dsimp only;rw[g6];have:=oG (e6 a b) h;rw[b0]at this;exact this _
theorem VA(x y:Rat):dF x y=if x-y<0 then -1 else if x-y=0 then 0 else 1:=by
 have b:x-y<0↔x<y:=by
  constructor
  ·intro h;have a:=(ha (c:=y)).2 h
   rwa [g5,g7]at a
  ·intro h;refine(ha (c:=y)).1 ?_
   rwa [g5,g7]
 have a:x-y=0↔x=y:=by
  constructor
  ·intro h;have d:=congrArg (·+y) h
   simpa[g5,g7]using d
  ·intro h;rw[h,hj]
 simp only[dF,b,a]
theorem AO(n:Int){d:Nat}(i:d≠0):(if g4 n d<0 then(-1:Int)else if g4 n d=0 then 0 else 1)=zk n:=by
 rw[Ch,J8];obtain⟨e1,-⟩:=ld (n:=n) i;have k:0<e7 n.natAbs d:=ew _ (by omega);have j:((e7 n.natAbs d:Nat):Int)∣n:=by
  rw[b4];exact fl _ _
 obtain⟨c,hc⟩:=j;rw[e1];generalize e7 n.natAbs d=g at*;have a:(0:Int)<g:=by omega
 subst hc;rw[bv _ (by omega)];have b:(g:Int)*c<0↔c<0:=by
  constructor
  ·intro h;refine Int.not_le.1 fun f=>?_;have:=ce (Int.le_of_lt a) f;omega
  ·intro h;exact ck a h
 have e:(g:Int)*c=0↔c=0:=by
  rw[Int.mul_eq_zero];constructor
  ·rintro(h|h)
   ·omega
   ·exact h
  ·exact fun h=>.inr h
 simp only[b,e]
theorem WD{n m:Int}{d e:Nat}{p:PV}(a:d≠0)(b:e≠0)(h:Dc n d m e=some p):p=.int .i64 (dF (fr n d).q (fr m e).q):=by
 simp only[Dc,g3]at h;rw[<-h,VA,fr,fr];dsimp only;rw[Rat.divInt_sub_divInt _ _ (sQ a) (sQ b),<-b0,AO _ (e6 a b)]
theorem Mk{n m:Int}{d e:Nat}{p:PV}(a:d≠0)(c:e≠0)(h:za n d m e=some p):p=eF ((fr n d).div (fr m e))/\(fr m e).q≠0:=by
 have b:m≠0->(fr m e).q≠0:=fun g hq=>by
  rw[fr]at hq;dsimp only at hq;have:=AO m c;rw[hq,if_neg (by decide),if_pos rfl,J8]at this
  split at this
  ·omega
  ·first
     |omega
     |(rw[if_neg g]at this;omega)
 rw[NF.div,fr,fr];dsimp only;unfold za at h;cases m with
 |ofNat k=>
  simp only[a9]at h
  split at h
  ·cases h
  ·rename_i hk;have f:k≠0:=fun e=>hk (by rw[e];rfl);have:=oG (e6 a f) h;refine⟨?_,b (by show(k:Int)≠0;omega)⟩;have e:(g4 n d:Rat)/g4 (Int.ofNat k) e=g4 (n*e) (d*k):=by
    rw[g8,hg,g6];rfl
   rw[e];rw[b0]at this;exact this _
 |negSucc k=>
  dsimp only at h;have:=oG (e6 a (Nat.succ_ne_zero k)) h;refine⟨?_,b (by omega)⟩;have e:(g4 n d:Rat)/g4 (cv k) e=g4 (-(n*e)) ((d:Int)*((k+1:Nat):Int)):=by
   rw[g8,hg,g6];rw[show cv k= -((k+1:Nat):Int)from rfl,Int.mul_neg];rw[Rat.divInt_neg']
  rw[e];rw[b0]at this;exact this _
def y9:Nat->Nat->Nat
 |0,_=>0
 |f+1,n=>bif em n 0 then 0 else y9 f (n/10)+1
theorem V9{a b:Nat}(h:a<b):e8 a b=true:=by rw[fb];exact h
theorem yR{a b:Nat}(h:e8 a b=true):a<b:=by rw[fb]at h;exact h
theorem L7:∀(f n:Nat),n<10^f->y9 f n=nd n
 |0,n,h=>by
  have:n=0:=by simpa using h
  subst this;rw[nd];rfl
 |f+1,n,h=>by
  rw[y9,nd]
  by_cases a:n=0
  ·subst a;rfl
  ·have b:em n 0=false:=by
    rcases c:em n 0 with _|_
    ·rfl
    ·exact(a (ej c)).elim
   rw[b,cond_false,dif_neg a,L7 f (n/10) (by rw[gg (by omega)];rw[fm]at h;exact h)]
def tj(n:Nat):List Nat:=o7 (y9 80 n) fun k=>bif e8 1 k then low k n else low 1 n
theorem yt{n:Nat}(h:n<10^80):tj n=bp n:=by
 rw[tj,uL,L7 _ _ h,bp];rcases a:e8 1 (nd n)with _|_
 ·have:¬1<nd n:=fun b=>by rw[V9 b]at a;cases a
  rw[cond_false,Nat.max_eq_left (by omega)]
 ·have:1<nd n:=yR a;rw[cond_true,Nat.max_eq_right (by omega)]
def Dv:Int->List Nat
 | .ofNat n=>tj n
 | .negSucc n=>45::tj (n+1)
theorem aCn{z:Int}(h:z.natAbs<10^80):Dv z=cQ z:=by
 cases z with
 |ofNat n=>rw[cQ,if_neg (by show¬((n:Int)<0);omega)];exact yt h
 |negSucc n=>rw[cQ,if_pos (by omega)];exact congrArg (45::·) (yt h)
def Du(n:Int)(d:Nat):List Nat:=bif em d 1 then Dv n else Dv n++47::tj d
theorem Jn{n:Int}{d:Nat}(a:d≠0)(b:e7 n.natAbs d=1):(fr n d).q.num=n/\(fr n d).q.den=d:=by
 obtain⟨e1,e2⟩:=ld (n:=n) a;rw[b]at e1 e2;simp only[cy,c6,gb]at e1 e2;exact⟨e1,e2⟩
theorem Js{p:PV}{n:Int}{d:Nat}(h:o5 p=some (n,d)):e7 n.natAbs d=1/\n.natAbs<10^80/\d<10^80:=by
 unfold o5 at h
 split at h
 case h_2=>cases h
 split at h
 case h_2=>cases h
 simp only[a9]at h
 split at h
 case isFalse=>cases h
 rename_i hc;simp only[g3,Prod.mk.injEq]at h;obtain⟨rfl,rfl⟩:=h;simp only[Df,bb,fb]at hc;obtain⟨c1,c2,c3,c4,c5⟩:=hc;have a:xZ<10^80:=by decide
 exact⟨ej c5,by omega,by omega⟩
theorem aCl{p:PV}{n:Int}{d:Nat}(h:o5 p=some (n,d))(f:d≠0):Du n d=bN (fr n d).q:=by
 obtain⟨g,b,c⟩:=Js h;obtain⟨e1,e2⟩:=Jn f g;rw[Du,bN,e1,e2,aCn b,yt c];rcases a:em d 1 with _|_
 ·rw[cond_false,if_neg (fun e=>by rw[e]at a;cases a)]
 ·rw[cond_true,if_pos (ej a)]
def oZ:List Nat->Nat->Bool
 |[],_=>true
 |c::r,f=>match f with
  |0=>false
  |f+1=>bif e8 c 256 then oZ r f else false
theorem uT:∀{s:List Nat}{f:Nat},oZ s f=true->s.length<=f/\∀c∈s,c<256
 |[],_,_=>⟨fd _,fun c hc=>by cases hc⟩
 |c::r,0,h=>by simp[oZ]at h
 |c::r,f+1,h=>by
  simp only[oZ,a9]at h
  split at h
  ·rename_i hc;obtain⟨b,a⟩:=uT h;refine⟨by simp;omega,fun x hx=>?_⟩;rcases ee.1 hx with rfl|hx
   ·exact yR hc
   ·exact a x hx
  ·cases h
def Ol(z:Int):Bool:=match z with
 | .ofNat n=>em n 0
 |_=>false
theorem axL{z:Int}(h:Ol z=true):z=0:=by
 cases z with
 |ofNat n=>rw[ej (show em n 0=true from h)];rfl
 |negSucc n=>cases h
def CT(n:Int)(d:Nat):Option PV:=bif em d 0 then none else mC n d
theorem XG{n:Int}{d:Nat}{p:PV}(h:CT n d=some p)(m:Bool):p=eF ⟨g4 n d,m⟩:=by
 unfold CT at h;rcases a:em d 0 with _|_
 ·rw[a]at h;exact oG (fun e=>by rw[e]at a;cases a) h m
 ·rw[a]at h;cases h
def CU(s:List Nat):Option PV:=bif Ol (bY s)&&oZ s 1000 then
 yX (if bV s=true then -(aW (bD s):Int)else aW (bD s)) fun n=>o7 (if dR s=true then aW (bK s)else 1) fun d=>CT n d else none
theorem XH{s:List Nat}{p:PV}(h:CU s=some p):p=eF ⟨aX s,false⟩/\bY s=0/\s.length<=1048576:=by
 unfold CU at h;simp only[a9,KL,uL]at h
 split at h
 case isFalse=>cases h
 rename_i hc;rw[bb]at hc;obtain⟨c1,c2⟩:=hc;obtain⟨a,b⟩:=uT c2;refine⟨?_,axL c1,by omega⟩;rw[aX];exact XG h false
def Nv:Int->Bool
 | .ofNat n=>e8 n jU
 | .negSucc n=>e8 n jU
theorem Yh{z:Int}(h:Nv z=true):-9223372036854775808<=z/\z<=9223372036854775807:=by
 cases z with
 |ofNat n=>have:n<9223372036854775808:=yR h;refine⟨?_,?_⟩<;>show _<=_<;>simp only[Int.ofNat_eq_natCast]<;>omega
 |negSucc n=>have:n<9223372036854775808:=yR h;omega
def Dh(f:Nat)(a:PV):Option PV:=match a with
 | .int .i64 z=>bif em f 74&&Nv z then mC z 1 else none
 | .str s=>bif em f 142 then CU s else bif em f 221&&oZ s 1000 then some (.int .i64 (bY s))else none
 | .st u [.str x,.str y]=>bif em f 92&&(em u 46&&(oZ x 1000&&oZ y 1000))then some (.int .i64 (gd ⟨x,y⟩))else none
 | .st u [c,e]=>match o5 (.st u [c,e])with
  |some (n,d)=>bif em f 174 then mC (-n) d else
   bif em f 146 then some (.int .i64 (zk n))else
   bif em f 173 then za 1 1 n d else
   bif em f 176 then some (.str (Du n d))else
   bif em f 175 then some (.bool false)else none
  |none=>none
 |_=>none
def th(f:Nat)(a b:PV):Option PV:=
 bif em f 89 then two Ot a b else
 bif em f 191 then two Ov a b else
 bif em f 172 then two Ou a b else
 bif em f 75 then two za a b else
 bif em f 136 then two Dc a b else none
def hk(f:Nat):List PV->Option PV
 |[a]=>Dh f a
 |[a,b]=>th f a b
 |_=>none
theorem Nd(z:Int):g4 z ((1:Nat):Int)=(z:Rat):=by
 rw[show((1:Nat):Int)=1 from rfl,Rat.divInt_eq_div];rw[show((1:Int):Rat)=1 from rfl,g8,show(1:Rat)⁻¹=1 from by decide+kernel,Rat.mul_one]
theorem bq{a b:Nat}(h:em a b=true):a=b:=ej h
theorem azC{f:Nat}{a v:PV}(h:Dh f a=some v):az prog f [a] v:=by
 unfold Dh at h
 split at h
 ·rename_i z;simp only[a9]at h
  split at h
  ·rename_i hc;rw[bb]at hc;obtain⟨t,w⟩:=Yh hc.2;rw[bq hc.1,oG (by decide) h true];have:=yU z t w;rw[NF.int]at this;rw[Nd];exact this
  ·cases h
 ·rename_i s;simp only[a9]at h
  split at h
  ·rename_i hf;obtain⟨e1,e2,e3⟩:=XH h;rw[bq hf,e1];exact kJ s e2 e3
  ·split at h
   ·rename_i hc;rw[bb]at hc;obtain⟨j,b⟩:=uT hc.2;simp only[g3]at h;subst h;rw[bq hc.1];exact yx s (by omega) b
   ·cases h
 ·rename_i u x y;simp only[a9]at h
  split at h
  ·rename_i hc;simp only[bb]at hc;obtain⟨c1,c2,c3,c4⟩:=hc;obtain⟨j,b⟩:=uT c3;obtain⟨A,o⟩:=uT c4;simp only[g3]at h;subst h;rw[bq c1,bq c2];exact F7 ⟨x,y⟩ ⟨⟨by show x.length<=_;omega,b⟩,⟨by show y.length<=_;omega,o⟩⟩
  ·cases h
 ·rename_i u c e _
  split at h
  case h_2=>cases h
  rename_i n d l;obtain⟨r,g,i⟩:=BC l;rw[r];simp only[a9]at h
  split at h
  ·rename_i hf;rw[bq hf,oG g h false,<-hd];exact JB _ i
  split at h
  ·rename_i hf;simp only[g3]at h;subst h;rw[bq hf,<-AO n g];exact BX _
  split at h
  ·rename_i hf;obtain⟨e1,e2⟩:=Mk (by decide) g h;have e3:(fr 1 1).div (fr n d)=(fr n d).inv:=by
    rw[NF.div,NF.inv,fr,fr];dsimp only;rw[Nd,g8];rw[show((1:Int):Rat)=1 from rfl,Rat.one_mul]
   rw[bq hf,e1,e3];exact JC _ i e2
  split at h
  ·rename_i hf;simp only[g3]at h;subst h;rw[bq hf,aCl l g];exact Wn _ i
  split at h
  ·rename_i hf;simp only[g3]at h;subst h;rw[bq hf];have hl:=Wf _ i;obtain⟨p,j,b⟩:=Js l;obtain⟨e1,e2⟩:=Jn g p;have m:∀k,k<10^80->lO k=false:=fun k hk=>by
    rw[lO,decide_eq_false_iff_not];have B:nd k<=80:=Nat.not_lt.1 fun q=>by have:=(nH _ _).1 q;omega
    rw[rT];omega
   rw[C9,e1,e2,m _ j,m _ b]at hl;exact hl
  ·cases h
 ·cases h
theorem aBY{f:Nat}{a b v:PV}(h:th f a b=some v):az prog f [a,b] v:=by
 unfold th at h;simp only[a9]at h
 split at h
 ·rename_i hf;obtain⟨n,d,m,e,rfl,rfl,c,g,j,k,i⟩:=uP h;rw[bq hf,WC c g i];exact Ln _ _ j k
 split at h
 ·rename_i hf;obtain⟨n,d,m,e,rfl,rfl,c,g,j,k,i⟩:=uP h;rw[bq hf,WG c g i];exact xT _ _ j k
 split at h
 ·rename_i hf;obtain⟨n,d,m,e,rfl,rfl,c,g,j,k,i⟩:=uP h;rw[bq hf,WE c g i];exact xk _ _ j k
 split at h
 ·rename_i hf;obtain⟨n,d,m,e,rfl,rfl,c,g,j,k,i⟩:=uP h;obtain⟨e1,e2⟩:=Mk c g i;rw[bq hf,e1];exact Wx _ _ j k e2
 split at h
 ·rename_i hf;obtain⟨n,d,m,e,rfl,rfl,c,g,j,k,i⟩:=uP h;rw[bq hf,WD c g i];exact sN _ _ j k
 ·cases h
theorem X9{f:Nat}{vs:List PV}{v:PV}(h:hk f vs=some v):az prog f vs v:=by
 unfold hk at h
 split at h
 ·exact azC h
 ·exact aBY h
 ·cases h
end Hk
theorem aCq{n:Nat}(h:n<10^80):bN ((n:Nat):Rat)=Hk.tj n:=by
 rw[Hk.yt h,bN,if_pos (by rfl),cQ,if_neg (by show¬((n:Int)<0);omega)];rfl
structure df where
 x:Int
 y:Int
 deriving DecidableEq
structure cw where
 name:List Nat
 bL:Int
 a:List Nat
 b:List Nat
structure cU where
 name:List Nat
 pt:gW
structure aE where
 cs:List df
 bJ:Int
 aF:List cw
 aA:List cU
def aR(p:df):PV:=.st 60 [.int .i64 p.x,.int .i64 p.y]
def bu(p:cw):PV:=.st 109 [.str p.name,.int .i64 p.bL,.str p.a,.str p.b]
def bF(p:cU):PV:=.st 48 [.str p.name,fR p.pt]
def bW(t:aE):PV:=.st 25 [.seq (t.cs.map aR),.int .i64 t.bJ,.seq (t.aF.map bu),.seq (t.aA.map bF)]
@[simp] theorem aHg(p:df):aL (aR p)=.agg 60:=rfl
@[simp] theorem aFr(p:df):cE (aR p)=[.int .i64 p.x,.int .i64 p.y]:=rfl
@[simp] theorem aHd(p:cw):aL (bu p)=.agg 109:=rfl
@[simp] theorem aFo(p:cw):cE (bu p)=[.str p.name,.int .i64 p.bL,.str p.a,.str p.b]:=rfl
@[simp] theorem aHi(p:cU):aL (bF p)=.agg 48:=rfl
@[simp] theorem aFu(p:cU):cE (bF p)=[.str p.name,fR p.pt]:=rfl
@[simp] theorem aHn(t:aE):aL (bW t)=.agg 25:=rfl
@[simp] theorem aFB(t:aE):cE (bW t)=[.seq (t.cs.map aR),.int .i64 t.bJ,.seq (t.aF.map bu),.seq (t.aA.map bF)]:=rfl
@[simp] theorem aDX:prog.cellsOf 60=2:=by kernel_rfl
@[simp] theorem aDV:prog.cellsOf 109=4:=by kernel_rfl
@[simp] theorem aDZ:prog.cellsOf 48=3:=by kernel_rfl
def fx(p:df):Bool:=decide (10000<max p.x p.y)||decide (min p.x p.y< -10000)
theorem Wy(p:df):az prog 79 [aR p] (.bool (fx p)):=by
 obtain⟨x,y⟩:=p;refine aO nf N5 mix (by simp[f79]) ?_;have e1:max x y=if x<y then y else x:=by split<;>omega
 have e2:min x y=if y<x then y else x:=by split<;>omega
 rw[fx,e1,e2]
 by_cases h:(if x<y then y else x)<=10000
 ·have a:¬10000<(if x<y then y else x):=by omega
  by_cases b:(if y<x then y else x)< -10000
  ·simp[f79,ad,h,a,b]
  ·simp[f79,ad,h,a,b]
 ·have a:10000<(if x<y then y else x):=by omega
  simp[f79,ad,h,a]
def eZ(p:df):Prop:=-10000<=p.x/\p.x<=10000/\-10000<=p.y/\p.y<=10000
theorem DP{p:df}(h:fx p=false):eZ p:=by
 simp only[fx,Bool.or_eq_false_iff,decide_eq_false_iff_not]at h;unfold eZ;omega
def kO(a b c:df):Int:=(b.x-a.x)*(c.y-a.y)-(b.y-a.y)*(c.x-a.x)
theorem vE{a b:Int}{A B:Int}(c:-A<=a)(d:a<=A)(e:-B<=b)(f:b<=B):-(A*B)<=a*b/\a*b<=A*B:=by
 have k1:a.natAbs<=A.natAbs:=by omega
 have k2:b.natAbs<=B.natAbs:=by omega
 have k3:=gt k1 k2;rw[<-bo,<-bo]at k3;have k4:0<=A*B:=ce (by omega) (by omega);omega
theorem PO(a b c:df)(i:eZ a)(j:eZ b)(hc:eZ c):az prog 177 [aR a,aR b,aR c] (.int .i64 (kO a b c)):=by
 obtain⟨d,e⟩:=a;obtain⟨bx,f⟩:=b;obtain⟨g,h⟩:=c;simp only[eZ]at i j hc;have k:bk.wrap (bx-d)=bx-d:=aN _ (by omega) (by omega);have l:bk.wrap (h-e)=h-e:=aN _ (by omega) (by omega);have m:bk.wrap (f-e)=f-e:=aN _ (by omega) (by omega)
 have n:bk.wrap (g-d)=g-d:=aN _ (by omega) (by omega);have r:=vE (a:=bx-d) (b:=h-e) (A:=20000) (B:=20000) (by omega) (by omega) (by omega) (by omega);have s:=vE (a:=f-e) (b:=g-d) (A:=20000) (B:=20000) (by omega) (by omega) (by omega) (by omega);have o:bk.wrap ((bx-d)*(h-e))=(bx-d)*(h-e):=aN _ (by omega) (by omega);have p:bk.wrap ((f-e)*(g-d))=(f-e)*(g-d):=aN _ (by omega) (by omega);have q:bk.wrap ((bx-d)*(h-e)-(f-e)*(g-d))=(bx-d)*(h-e)-(f-e)*(g-d):=aN _ (by omega) (by omega);refine aO nf Ex mix (by simp[f177]) ?_;rw[kO];simp[f177,ad,k,l,m,n,o,p,q]
def aE.nx(t:aE)(i:Nat):Nat:=(i+1)% t.cs.length
def aE.at(t:aE)(i:Nat):df:=t.cs.getD i ⟨0,0⟩
theorem aE.get{t:aE}{i:Nat}(h:i<t.cs.length):t.cs[i]?=some (t.at i):=by
 rw[aE.at,dz,c9 h];rfl
@[simp] theorem aE.aM{t:aE}{i:Nat}(h:i<t.cs.length):t.cs[i]'h=t.at i:=by
 rw[aE.at,dz,c9 h];rfl
theorem aE.nR{t:aE}(h:0<t.cs.length)(i:Nat):t.nx i<t.cs.length:=g2 _ h
theorem Ec(t:aE)(i:Nat)(h:i<t.cs.length)(hl:t.cs.length<=1000000):az prog 178 [bW t,.int .i64 i] (aR (t.at (t.nx i))):=by
 have f:bk.wrap ((i:Int)+1)=(i:Int)+1:=aN _ (by omega) (by omega);have c:=t.nR (by omega) i;have e1:((i:Int)+1).tmod (t.cs.length:Int)=((t.nx i:Nat):Int):=by
  rw[aE.nx,cb,b2 (by omega)];rfl
 have b:=aE.get c;have d:¬t.cs.length=0:=by omega
 have a:¬t.cs=[]:=by intro e;rw[e]at h;simp at h
 refine aO nf Ew mix (by simp[f178]) ?_;simp[f178,ad,f,e1,b,d,a]
end Go.au
